/-
 The code of each function does what its plain program says.
-/
import Derived.Test.YthdnpgpnodgicaaGreatL7W6
set_option linter.all false
set_option maxRecDepth 100000
namespace Go.Proofs.YthdnpgpnodgicaaGreat
open Go Go.Pb Go.RowKit
def RF82 (res : Int) (r : PV) : Prop := r = vi res
theorem mn {S : List Fr} {res : Int} {x0 : List bh} {x1 : bh → Bool} {v0 v1 : PV} (r0 : (tSl bh.t).R x0 v0) (r1 : (tFn Tryz.prog bh.t tB).R x1 v1) {K0 : Unit → Int}
  (a8 : K0 () = res → PX Tryz.prog 0 S (QR Tryz.prog [(4, none)] (RF82 res)) [] ⟨0, []⟩) :
  ∀ {m : Nat} {a0 : Int} (a7 : m = Int.toNat ((x0.length : Int) - a0)) (a2 : 0 ≤ a0), bw x0 x1 K0 m a0 = res → RC Tryz.prog (.loop ct1) S (QR Tryz.prog [(4, none)] (RF82 res)) [(8, vi a0), (7, vi (x0.length : Int)), (1, v1), (0, v0)] ⟨0, []⟩ := by
 intro m
 induction m with
 | zero =>
  intro a0 a7 a2 hres
  rw [bw] at hres
  refine bt (sR (bN cy rfl rfl (nS (ah ?_))))
  refine bc rfl ?_ ?_ <;> intro c <;> try simp only [qa] at c
  ·omega
  refine dm (fb (df ?_))
  exact wP (a8  hres) rfl
 | succ m ih =>
  intro a0 a7 a2 hres
  rw [bw] at hres
  refine bt (sR (bN cy rfl rfl (nS (ah ?_))))
  refine bc rfl ?_ ?_ <;> intro c <;> try simp only [qa] at c
  rotate_left
  ·omega
  refine ay (ai (ah (bd (sR (mV rfl (mV rfl (nR (mV rfl ?_))))))))
  refine mV rfl (mV rfl ?_)
  obtain ⟨a6, a4, a3⟩ := dl (i := a0) r0 (by first | omega | (have hk := bn (by assumption) (by assumption); omega) | (have hk := tck (by assumption) (by assumption); omega) | (have hk := rtck (by assumption) (by assumption); omega) | (have hk := eck (by assumption) (by assumption) (by assumption); omega) | (have hk := tv (by assumption) (by assumption); omega) | (have hk := rtv (by assumption) (by assumption); omega)) (by first | omega | (have hk := bn (by assumption) (by assumption); omega) | (have hk := tck (by assumption) (by assumption); omega) | (have hk := rtck (by assumption) (by assumption); omega) | (have hk := eck (by assumption) (by assumption) (by assumption); omega) | (have hk := tv (by assumption) (by assumption); omega) | (have hk := rtv (by assumption) (by assumption); omega))
  refine ab (bq rfl rfl a4) (lD a3 rfl rfl rfl ?_)
  refine ay6 rfl r1 rfl (show bh.t.R (ix x0 a0) a6 from a3) (fun a5 a1 => ?_)
  have a1 : a5 = vb (x1 (ix x0 a0)) := a1; subst a1
  refine nS ?_
  refine di hres rfl ?_ ?_ <;> clear hres <;> intro c hres <;> try simp only [qa] at c
  ·refine sR (mV rfl (mV rfl (nS ?_)))
   exact rR hres rfl rfl rfl
  ·refine ay (dj (ai (af (bN ep rfl rfl (mV rfl (aw (cx ?_)))))))
   have hbd := dv r0
   have hinc : wr (a0 + 1) = a0 + 1 := du (by omega) (by omega)
   erw [hinc]
   exact wC (ih   (by omega) (by omega) hres) rfl

theorem dx3 {x0 : List bh} {x1 : bh → Bool} {v0 v1 : PV} (r0 : (tSl bh.t).R x0 v0) (r1 : (tFn Tryz.prog bh.t tB).R x1 v1) : FnR Tryz.prog 82 [v0, v1] (vi (gj x0 x1)) := by
 refine fnS (R := RF82) ch9 (fun _ h => h) rfl fun res hres => ?_
 unfold gj at hres
 refine sR (mI rfl (nS (ah (sR (mV rfl (ab (cw rfl (cf r0 Tryz.underlying85 _)) (mI rfl (nS ?_))))))))
 refine bd ?_
 refine wC (mn r0 r1 ?_  rfl (by omega) hres) rfl
 ·intro  hres
  refine fe (ai (sR (mI rfl (nS ?_))))
  exact rR hres rfl rfl rfl

def RF84 (res : (List (BitVec 32))) (r : PV) : Prop := (tSl lr).R res r
theorem zh {S : List Fr} {res : (List (BitVec 32))} {x0 : av} {b6 : PV} (hb : x0.Keys.length ≤ 20) (c3 : (tSl bb.t).R x0.Keys b6) {K0 : (List (BitVec 32)) → (List (BitVec 32))}
  (d3 : ∀ {a1 : List (BitVec 32)} {a0 : List PV} {a2 : PV} (a4 : All2 lr.R a1 a0) (a6 : isL a2 = true) (a3 : Wri a2 a0) (a5 : a1.length ≤ 4611686018427387904) {h : Heap} (M0 : Mem h [⟨a2, 64, 1, a0⟩]), K0 a1 = res → PX Tryz.prog 0 S (QR Tryz.prog [(2, none)] (RF84 res)) [(3, a2)] h) :
  ∀ {m : Nat} {a7 : Int} {a1 : List (BitVec 32)} {a0 : List PV} {a2 : PV} (a4 : All2 lr.R a1 a0) (a6 : isL a2 = true) (a3 : Wri a2 a0) (a5 : a1.length ≤ 4611686018427387904) (d1 : m = Int.toNat ((x0.Keys.length : Int) - a7)) (b7 : 0 ≤ a7) (b1 : (a1.length : Int) ≤ a7) {h : Heap} (M0 : Mem h [⟨a2, 64, 1, a0⟩]), jz x0 K0 m a7 a1 = res → RC Tryz.prog (.loop dc6) S (QR Tryz.prog [(2, none)] (RF84 res)) [(9, vi a7), (8, vi (x0.Keys.length : Int)), (7, b6), (3, a2)] h := by
 have hb' := hb
 try simp only [qa] at hb'
 intro m
 induction m with
 | zero =>
  intro a7 a1 a0 a2 a4 a6 a3 a5 d1 b7 b1 h M0 hres
  rw [jz] at hres
  refine bt (sR (bN cy rfl rfl (nS (ah ?_))))
  refine bc rfl ?_ ?_ <;> intro c <;> try simp only [qa] at c
  ·omega
  refine dm (fb (df ?_))
  exact wP (d3 a4 a6 a3 a5 (Mem.sub M0 (.cons_cons _ .slnil)) hres) rfl
 | succ m ih =>
  intro a7 a1 a0 a2 a4 a6 a3 a5 d1 b7 b1 h M0 hres
  rw [jz] at hres
  refine bt (sR (bN cy rfl rfl (nS (ah ?_))))
  refine bc rfl ?_ ?_ <;> intro c <;> try simp only [qa] at c
  rotate_left
  ·omega
  refine ay (ai (ah (bd (sR ?_))))
  obtain ⟨b8, c8, b2⟩ := dl (i := a7) c3 (by first | omega | (have hk := bn (by assumption) (by assumption); omega) | (have hk := tck (by assumption) (by assumption); omega) | (have hk := rtck (by assumption) (by assumption); omega) | (have hk := eck (by assumption) (by assumption) (by assumption); omega) | (have hk := tv (by assumption) (by assumption); omega) | (have hk := rtv (by assumption) (by assumption); omega)) (by first | omega | (have hk := bn (by assumption) (by assumption); omega) | (have hk := tck (by assumption) (by assumption); omega) | (have hk := rtck (by assumption) (by assumption); omega) | (have hk := eck (by assumption) (by assumption) (by assumption); omega) | (have hk := tv (by assumption) (by assumption); omega) | (have hk := rtv (by assumption) (by assumption); omega))
  refine ab (bq rfl rfl c8) (lD b2 rfl rfl rfl ?_)
  refine dh (x := .agg [dx 0#32, dx 0#32]) M0 rfl rfl (fun c5 c9 d5 c6 => ?_)
  refine db (k := 0) (v := b8) c6 rfl rfl rfl (TR.cnt bb.t b2) (fun b3 a9 => ?_)
  replace a9 : Mem b3 [⟨.op c5 c9 0, 127, 2, [b8]⟩, ⟨a2, 64, 1, a0⟩] := a9
  refine nS (af (mV rfl (ab (bf rfl) (ab (cp (k := 0) a9 rfl rfl (bb.g_Value b2)) (ab (v := .fs true [dx ((ix x0.Keys a7).Value)]) (iw rfl (all_cons rfl lu)) ?_)))))
  have c4 : (tSl lr).R ([(ix x0.Keys a7).Value] : List (BitVec 32)) (.fs true [dx ((ix x0.Keys a7).Value)]) := tp ⟨rfl, trivial⟩ (by simp)
  obtain ⟨a8, c0, b0⟩ := uv (t := lr) (h := b3) c4
  have b5 : fits (a0.length + a8.length) 4 = true := by rw [All2.length_eq a4, All2.length_eq b0]; (try simp only [List.length_cons, List.length_nil]); exact oz (by omega) (by omega)
  refine pt (k := 1) (es := a0) (news := a8) a9 rfl rfl rfl a6 a3 c0 b5 (fun d4 d2 c7 b9 d0 => ?_)
  have c1 : All2 lr.R (a1 ++ ([(ix x0.Keys a7).Value] : List (BitVec 32))) (a0 ++ a8) := All2.app a4 b0
  have b4 : (a1 ++ ([(ix x0.Keys a7).Value] : List (BitVec 32))).length ≤ 4611686018427387904 := by rw [← All2.length_eq c1, List.length_append]; exact ur b5
  refine mV rfl (aw (dj (ai (af (bN ep rfl rfl (mV rfl (aw (cx ?_))))))))
  have hbd := dv c3
  have hinc : wr (a7 + 1) = a7 + 1 := du (by omega) (by omega)
  erw [hinc]
  exact wC (ih  c1 c7 b9 b4 (by omega) (by omega) (by first | omega | (simp; done) | (simp only [List.length_append, List.length_cons, List.length_nil, List.length_set]; omega)) (Mem.sub d0 (.cons _ (.cons_cons _ .slnil))) hres) rfl

theorem dw1 {x0 : av} {v0 : PV} (r0 : av.t.R x0 v0) (hb : x0.Keys.length ≤ 20) : ∃ r, FnR Tryz.prog 84 [v0] r ∧ (tSl lr).R (ph x0) r := by
 refine fnT (R := RF84) cd9 rfl fun res hres => ?_
 unfold ph at hres
 refine sR (ab (dt rfl (TR.cnt av.t r0)) (ab (v := nilS) (au rfl) (nR (ab (v := nilS) (au rfl) (nS (ah (sR (gL (av.g_Keys r0) rfl rfl rfl fun b3 a7 => ?_))))))))
 refine ab (cw rfl (cf a7 Tryz.underlying38 _)) (mI rfl (nS (bd ?_)))
 have b1 := pq (sz := 1) (es := []) (Mem.nil ⟨0, []⟩) 64 (.inl ⟨none, rfl, rfl⟩) (by simp)
 refine wC (zh hb a7 ?_  aL rfl (.inl rfl) (by first | decide | simp) rfl (by omega) (by first | omega | (simp; done) | (simp only [List.length_append, List.length_cons, List.length_nil, List.length_set]; omega)) (Mem.sub b1 (.cons_cons _ .slnil)) hres) rfl
 ·intro a5 a4 a6 a1 a2 a3 a0 b2 a8 hres
  refine fe (ai (sR (mV rfl (mV rfl (nS ?_)))))
  obtain ⟨b4, a9, b0⟩ := xr (P := Tryz.prog) (k := 0) (t := lr) a8 rfl a2 a1 (Nat.le_trans a0 (by decide))
  subst hres
  exact dw (.tmp rfl .nil) a9 b0

theorem cb1 (ad : Option Addr) (ox oy : Operand) : ∃ b, binF Tryz.prog .eql 38 ox oy (.sc (.slice ad 0 0)) nilS = some (vb b) := by
 cases ad with
 | none => exact ⟨true, by kernel_rfl⟩
 | some a => exact ⟨false, by cases a; kernel_rfl⟩
theorem cs7 (tg : Bool) (es : List PV) (ox oy : Operand) : binF Tryz.prog .eql 38 ox oy (.fs tg es) nilS = some (vb false) := rfl
theorem cn8 {l : List bb} {v : PV} (r : (tSl bb.t).R l v) (ox oy : Operand) : ∃ b, binF Tryz.prog .eql 38 ox oy v nilS = some (vb b) ∧ (b = true → l = []) := by
 obtain ⟨⟨es, he, hl⟩, hb⟩ := r
 rcases he with ⟨ad, rfl, rfl⟩ | ⟨tg, rfl⟩
 ·obtain ⟨b, h⟩ := cb1 ad ox oy
  refine ⟨b, h, fun _ => ?_⟩
  cases l with
  | nil => rfl
  | cons _ _ => simp [All2] at hl
 ·exact ⟨false, cs7 tg es ox oy, fun h => by cases h⟩
theorem dq9 {x0 : List bb} {v0 : PV} (r0 : (tSl bb.t).R x0 v0) (hb : x0.length ≤ 2000000) : ∃ r, FnR Tryz.prog 69 [v0] r ∧ (tSl bb.t).R x0 r := by
 refine fnE cl6 (by simp) ?_
 refine ah (af (ab (v := nilS) (au rfl) (aw (ai (ah (ah (af (ab (au rfl) ?_))))))))
 obtain ⟨b, e1, e2⟩ := cn8 r0 (.tmp 3) (.const (.slice none 0 0))
 refine ab (ba rfl rfl e1) (aw (ai (bc rfl (fun hc => ?_) fun hc => ?_)))
 ·have hx := e2 hc
  refine ah (af (ab (v := nilS) (au rfl) (aw (ai ?_))))
  exact dw (.tmp rfl .nil) (ck rfl) (by rw [hx]; exact gu)
 ·refine ay (ai (ah (af ?_)))
  refine ab (v := .fs true []) (iw rfl lu) (ab (au rfl) ?_)
  have MA := pq (sz := 2) (es := []) (Mem.nil ⟨0, []⟩) 127 (.inr rfl) (by simp)
  obtain ⟨nw, sr, ar⟩ := uv (t := bb.t) (h := ⟨0, []⟩) r0
  have ff : fits (([] : List PV).length + nw.length) 8 = true := by rw [All2.length_eq ar]; (try simp only [List.length_cons, List.length_nil]); exact oz (by omega) (by omega)
  refine pt (k := 0) (es := ([] : List PV)) (news := nw) MA rfl rfl rfl rfl (.inl rfl) sr ff (fun a h n wr M => ?_)
  refine ab (au rfl) (aw (ai ?_))
  obtain ⟨v1, d1, r1⟩ := xr (P := Tryz.prog) (k := 0) (t := bb.t) M rfl n ar (Nat.le_trans (show x0.length ≤ 4611686018427387904 by omega) (by decide))
  exact dw (.tmp rfl .nil) d1 r1
theorem ca5 (ad : Option Addr) (ox oy : Operand) : ∃ b, binF Tryz.prog .eql 33 ox oy (.sc (.slice ad 0 0)) nilS = some (vb b) := by
 cases ad with
 | none => exact ⟨true, by kernel_rfl⟩
 | some a => exact ⟨false, by cases a; kernel_rfl⟩
theorem cx9 (tg : Bool) (es : List PV) (ox oy : Operand) : binF Tryz.prog .eql 33 ox oy (.fs tg es) nilS = some (vb false) := rfl
theorem cd2 {l : List (BitVec 32)} {v : PV} (r : (tSl lr).R l v) (ox oy : Operand) : ∃ b, binF Tryz.prog .eql 33 ox oy v nilS = some (vb b) ∧ (b = true → l = []) := by
 obtain ⟨⟨es, he, hl⟩, hb⟩ := r
 rcases he with ⟨ad, rfl, rfl⟩ | ⟨tg, rfl⟩
 ·obtain ⟨b, h⟩ := ca5 ad ox oy
  refine ⟨b, h, fun _ => ?_⟩
  cases l with
  | nil => rfl
  | cons _ _ => simp [All2] at hl
 ·exact ⟨false, cx9 tg es ox oy, fun h => by cases h⟩
theorem dk9 {x0 : List (BitVec 32)} {v0 : PV} (r0 : (tSl lr).R x0 v0) (hb : x0.length ≤ 2000000) : ∃ r, FnR Tryz.prog 70 [v0] r ∧ (tSl lr).R x0 r := by
 refine fnE cc9 (by simp) ?_
 refine ah (af (ab (v := nilS) (au rfl) (aw (ai (ah (ah (af (ab (au rfl) ?_))))))))
 obtain ⟨b, e1, e2⟩ := cd2 r0 (.tmp 3) (.const (.slice none 0 0))
 refine ab (ba rfl rfl e1) (aw (ai (bc rfl (fun hc => ?_) fun hc => ?_)))
 ·have hx := e2 hc
  refine ah (af (ab (v := nilS) (au rfl) (aw (ai ?_))))
  exact dw (.tmp rfl .nil) (ck rfl) (by rw [hx]; exact gu)
 ·refine ay (ai (ah (af ?_)))
  refine ab (v := .fs true []) (iw rfl lu) (ab (au rfl) ?_)
  have MA := pq (sz := 1) (es := []) (Mem.nil ⟨0, []⟩) 64 (.inr rfl) (by simp)
  obtain ⟨nw, sr, ar⟩ := uv (t := lr) (h := ⟨0, []⟩) r0
  have ff : fits (([] : List PV).length + nw.length) 4 = true := by rw [All2.length_eq ar]; (try simp only [List.length_cons, List.length_nil]); exact oz (by omega) (by omega)
  refine pt (k := 0) (es := ([] : List PV)) (news := nw) MA rfl rfl rfl rfl (.inl rfl) sr ff (fun a h n wr M => ?_)
  refine ab (au rfl) (aw (ai ?_))
  obtain ⟨v1, d1, r1⟩ := xr (P := Tryz.prog) (k := 0) (t := lr) M rfl n ar (Nat.le_trans (show x0.length ≤ 4611686018427387904 by omega) (by decide))
  exact dw (.tmp rfl .nil) d1 r1
theorem bz5 {x0 : ak} {v0 : PV} (r0 : ak.t.R x0 v0) (hb : SR x0) : ∃ r, FnR Tryz.prog 35 [v0] r ∧ ak.t.R x0 r := by
 refine fnE ch5 (by simp) ?_
 have a0 := r0
 obtain ⟨c1, c2, rfl, q1, q2⟩ := a0
 refine ah (af ?_)
 refine wy (Mem.nil _) rfl rfl (fun i1 w1 h1 M1 => ?_)
 refine dh (x := .agg [vi 0, nilS, vi 0, vi 0, nilS]) M1 rfl rfl (fun i2 w2 h2 M2 => aw (ai ?_))
 obtain ⟨d1, f1, s1⟩ := dq9 q1 (by have := hb.1; omega)
 obtain ⟨d2, f2, s2⟩ := dk9 q2 (by have := hb.2; omega)
 refine ah (af ?_)
 refine ab (bf rfl) (ab (bf rfl) (ab (cp (k := 1) M2 rfl rfl (mk1 (TR.agg _ q1))) ?_))
 refine cL f1 rfl rfl (aq (TR.clo _ q1) bg) (ab (bf rfl) (ab (bf rfl) ?_))
 refine jx (k := 1) (v := d1) M2 rfl rfl rfl (af0 (TR.cnt _ s1) (TR.agg _ s1)) rfl (by simp) (fun h3 M3 => aw (ai ?_))
 replace M3 : Mem h3 [⟨.op i2 w2 0, 44, 5, [.agg [vi 0, nilS, vi 0, vi 0, nilS]]⟩, ⟨.op i1 w1 0, 44, 5, [.agg [vi x0.ID, d1, vi x0.Entry.Priority, vi x0.Entry.Call.Action, c2]]⟩] := M3
 refine ah (af ?_)
 refine ab (bf rfl) (ab (bf rfl) (ab (bf rfl) (ab (cp (off := 4) (k := 1) M3 rfl rfl (mk1 (TR.agg _ q2))) ?_)))
 refine cL f2 rfl rfl (aq (TR.clo _ q2) bg) (ab (bf rfl) (ab (bf rfl) (ab (bf rfl) ?_)))
 refine jx (off := 4) (k := 1) (v := d2) M3 rfl rfl rfl (af0 (TR.cnt _ s2) (TR.agg _ s2)) rfl (by simp) (fun h4 M4 => aw (ai ?_))
 replace M4 : Mem h4 [⟨.op i2 w2 0, 44, 5, [.agg [vi 0, nilS, vi 0, vi 0, nilS]]⟩, ⟨.op i1 w1 0, 44, 5, [.agg [vi x0.ID, d1, vi x0.Entry.Priority, vi x0.Entry.Call.Action, d2]]⟩] := M4
 refine ah (af ?_)
 refine ab (fw (k := 1) M4 rfl rfl rfl) ?_
 have hR : ak.t.R x0 (.agg [vi x0.ID, d1, vi x0.Entry.Priority, vi x0.Entry.Call.Action, d2]) := ⟨d1, d2, rfl, s1, s2⟩
 refine db (k := 0) (v := .agg [vi x0.ID, d1, vi x0.Entry.Priority, vi x0.Entry.Call.Action, d2]) M4 rfl rfl rfl rfl (fun h5 M5 => aw (ai ?_))
 exact dw (.cell rfl (jk (k := 0) M5 rfl rfl) .nil) (ck (TR.clo _ hR)) hR
theorem bs9 {P : Program} {h : Heap} {cs ds : List PV} (H : DeepCL P h cs ds) : Deep P h (.agg cs) (.agg ds) := cl8 H.closed fun k hk w0 F0 x us R hv => H.vrl hk R hv
theorem bu7 {P : Program} {h : Heap} {L : List Ent} {k id ver : Nat} {ty : TypeId} {sz : Nat} {cs ds : List PV} (M : Mem h L) (hk : L[k]? = some ⟨.op id ver 0, ty, sz, [.agg cs]⟩) (H : DeepCL P h cs ds) : DeepC P h (.op id ver 0) (.fp (.agg ds)) := by
 obtain ⟨h1, x', cs', h2, h3, h4⟩ := M.atF hk
 simp only [List.cons.injEq, and_true] at h2
 subst h2
 simp only [PV.cellsOf, Option.some.injEq] at h3
 subst h3
 refine ⟨by simpa [closed] using H.closed, rfl, fun k hk' w0 F0 y us R hv => ?_⟩
 simp only [VRC] at hv ⊢
 obtain ⟨b, hj, rfl⟩ := hv
 obtain ⟨cur, hcur, hcl, hvr⟩ := jw R (hk' _ _ h4) hj
 exact ⟨b, 0, cur.toList.take cs.length, rfl, .inr (R.own _ _ _ hj), by simpa using kj hcur 0 cs.length, H.vrl hk' R hvr⟩
theorem dq7 {cc cs ds : List PV} {a off : Nat} (hs : (cc.drop a).take cs.length = cs) (hl : off + ds.length ≤ cs.length) (ha : a + cs.length ≤ cc.length) : spl cc a (spl cs off ds) = spl cc (a + off) ds := by
 have hcc : cc = cc.take a ++ (cs ++ cc.drop (a + cs.length)) := by
  conv => lhs; rw [← List.take_append_drop a cc, ← List.take_append_drop cs.length (cc.drop a), hs, List.drop_drop]
 have hn : (spl cs off ds).length = cs.length := by simp [spl]; omega
 generalize hA : cc.take a = A at hcc
 generalize cc.drop (a + cs.length) = B at hcc
 have hAl : A.length = a := by rw [← hA, List.length_take]; omega
 subst hcc
 subst hAl
 have e1 : (A ++ (cs ++ B)).take (A.length + off) = A ++ cs.take off := by rw [List.take_append, List.take_of_length_le (by omega), show A.length + off - A.length = off by omega, List.take_append, show off - cs.length = 0 by omega]; simp
 have e2 : (A ++ (cs ++ B)).drop (A.length + off + ds.length) = cs.drop (off + ds.length) ++ B := by rw [List.drop_append, List.drop_of_length_le (by omega), show A.length + off + ds.length - A.length = off + ds.length by omega, List.drop_append, show off + ds.length - cs.length = 0 by omega]; simp
 have e3 : (A ++ (cs ++ B)).take A.length = A := by simp
 have e4 : (A ++ (cs ++ B)).drop (A.length + (spl cs off ds).length) = B := by rw [hn, List.drop_append, List.drop_of_length_le (by omega)]; simp
 have e5 : spl (A ++ (cs ++ B)) A.length (spl cs off ds) = A ++ (spl cs off ds ++ B) := by
  show List.take _ _ ++ (_ ++ List.drop _ _) = _
  rw [e3, e4]
 rw [e5]
 simp only [spl, e1, e2, List.append_assoc]
theorem cb9 {h : Heap} {L : List Ent} {k id ver n i off : Nat} {ty : TypeId} {sz : Nat} {es cs ds : List PV} {v : PV} (M : Mem h L) (hk : L[k]? = some ⟨.os id ver 0 n, ty, sz, es⟩) (hi : es[i]? = some (.agg cs)) (hv : v.cellsOf = some ds) (hl : off + ds.length ≤ cs.length) :
  ∃ h', storeR h ds.length (.op id ver (0 + i * sz + off)) v = some (.tup [], h') ∧ Mem h' (L.set k ⟨.os id ver 0 n, ty, sz, es.set i (.agg (spl cs off ds))⟩) := by
 obtain ⟨h1, hn, cc, h2, h3⟩ := M.atF hk
 obtain ⟨hil, hie⟩ := List.getElem?_eq_some_iff.1 hi
 obtain ⟨h4, h5⟩ := ad8 h1 h2 hi
 simp only [PV.cellsOf, Option.some.injEq] at h5
 have hcs : cs.length = sz := by have := h1 _ (List.mem_of_getElem? hi); simpa [cnt] using this
 have hsp : spl cc (i * sz) (spl cs off ds) = spl cc (i * sz + off) ds := dq7 (by rw [hcs, ← h5]) hl (by omega)
 have hsl : (spl cs off ds).length = sz := by simp [spl]; omega
 have hrc := ad2 (v := .agg (spl cs off ds)) h1 h2 hil rfl hsl
 refine ⟨hput h id (.cells ver ty true (spl cc (i * sz + off) ds)), ?_, M.upd hk ⟨fun x hx => ?_, by simp [hn], _, hrc, by rw [hsp]; simp [mr h3]⟩ (fun i hi => .inl hi) fun i hi hne => ?_⟩
 ·rw [ai3, h3, Nat.zero_add]
  simp only [storeB, hv]
  rw [if_pos ⟨trivial, trivial, by omega⟩]
 ·rcases List.mem_or_eq_of_mem_set hx with h6 | h6
  ·exact h1 x h6
  ·rw [h6]; simp [cnt, hsl]
 ·exact je _ _ _ _ fun e => hne (by simp [idOf, e])
theorem cw0 {P : Program} {S : List Fr} {Q : Post} {E : TEnv} {h : Heap} {L : List Ent} {hf : Bool} {r : List AOper} {o o' : Operand} {k id ver n i off sz' : Nat} {ty : TypeId} {sz : Nat} {es cs ds : List PV} {v : PV} (M : Mem h L) (eo : evE E o = some (.op id ver (0 + i * sz + off))) (ev' : evE E o' = some v) (hk : L[k]? = some ⟨.os id ver 0 n, ty, sz, es⟩) (hi : es[i]? = some (.agg cs)) (hv : v.cellsOf = some ds) (hn : ds.length = sz') (hl : off + ds.length ≤ cs.length)
  (K : ∀ h', Mem h' (L.set k ⟨.os id ver 0 n, ty, sz, es.set i (.agg (spl cs off ds))⟩) → RD P r S Q E h') : RD P (⟨none, .store sz' o o', none, hf⟩ :: r) S Q E h := by
 subst hn
 obtain ⟨h', h1, h2⟩ := cb9 M hk hi hv hl
 exact ab7 ⟨rfl, fun T hT => by show storeR h ds.length (ev T o) (ev T o') = _; rw [dy hT eo, dy hT ev', h1]⟩ (K h' h2)
theorem cb0 (ad : Option Addr) (ox oy : Operand) : ∃ b, binF Tryz.prog .eql 85 ox oy (.sc (.slice ad 0 0)) nilS = some (vb b) := by
 cases ad with
 | none => exact ⟨true, by kernel_rfl⟩
 | some a => exact ⟨false, by cases a; kernel_rfl⟩
theorem cp7 (tg : Bool) (es : List PV) (ox oy : Operand) : binF Tryz.prog .eql 85 ox oy (.fs tg es) nilS = some (vb false) := rfl
theorem cc7 {l : List bh} {v : PV} (r : (tSl bh.t).R l v) (ox oy : Operand) : ∃ b, binF Tryz.prog .eql 85 ox oy v nilS = some (vb b) ∧ (b = true → l = []) := by
 obtain ⟨⟨es, he, hl⟩, hb⟩ := r
 rcases he with ⟨ad, rfl, rfl⟩ | ⟨tg, rfl⟩
 ·obtain ⟨b, h⟩ := cb0 ad ox oy
  refine ⟨b, h, fun _ => ?_⟩
  cases l with
  | nil => rfl
  | cons _ _ => simp [All2] at hl
 ·exact ⟨false, cp7 tg es ox oy, fun h => by cases h⟩
theorem dk4 {x0 : List bh} {v0 : PV} (r0 : (tSl bh.t).R x0 v0) (hb : x0.length ≤ 2000000) : ∃ r, FnR Tryz.prog 79 [v0] r ∧ (tSl bh.t).R x0 r := by
 refine fnE bw9 (by simp) ?_
 refine ah (af (ab (v := nilS) (au rfl) (aw (ai (ah (ah (af (ab (au rfl) ?_))))))))
 obtain ⟨b, e1, e2⟩ := cc7 r0 (.tmp 3) (.const (.slice none 0 0))
 refine ab (ba rfl rfl e1) (aw (ai (bc rfl (fun hc => ?_) fun hc => ?_)))
 ·have hx := e2 hc
  refine ah (af (ab (v := nilS) (au rfl) (aw (ai ?_))))
  exact dw (.tmp rfl .nil) (ck rfl) (by rw [hx]; exact gu)
 ·refine ay (ai (ah (af ?_)))
  refine ab (v := .fs true []) (iw rfl lu) (ab (au rfl) ?_)
  have MA := pq (sz := 3) (es := []) (Mem.nil ⟨0, []⟩) 112 (.inr rfl) (by simp)
  obtain ⟨nw, sr, ar⟩ := uv (t := bh.t) (h := ⟨0, []⟩) r0
  have ff : fits (([] : List PV).length + nw.length) 24 = true := by rw [All2.length_eq ar]; (try simp only [List.length_cons, List.length_nil]); exact oz (by omega) (by omega)
  refine pt (k := 0) (es := ([] : List PV)) (news := nw) MA rfl rfl rfl rfl (.inl rfl) sr ff (fun a h n wr M => ?_)
  refine ab (au rfl) (aw (ai ?_))
  obtain ⟨v1, d1, r1⟩ := xr (P := Tryz.prog) (k := 0) (t := bh.t) M rfl n ar (Nat.le_trans (show x0.length ≤ 4611686018427387904 by omega) (by decide))
  exact dw (.tmp rfl .nil) d1 r1
def zTV : PV := .agg [vs [], nilS, nilS, vi 0, nilS, vi 0]
theorem ek9 : az.t.R zT zTV := ⟨_, _, _, rfl, gu, gu, gu⟩
theorem dv0 {x0 : aa} {x1 : Int} {v0 : PV} (r0 : aa.t.R x0 v0) (h0 : 0 ≤ x1) (h1 : x1 < x0.Tables.length) (h2 : x1 ≤ 1000000) (h3 : (ix x0.Tables x1).Keys.length ≤ 2000) : ∃ r, FnR Tryz.prog 43 [v0, vi x1] r ∧ aa.t.R (ownP x0 x1) r := by
 refine fnE ce2 (by simp) ?_
 refine ah (af (ab (dt rfl (TR.cnt aa.t r0)) ?_))
 refine dh (x := .agg [vs [], nilS, nilS, nilS, nilS, nilS, nilS, nilS, nilS]) (Mem.nil _) rfl rfl (fun i4 w4 h4 M4 => aw (ai ?_))
 refine ah (af (ab (au rfl) (ab (ba rfl rfl ep) ?_)))
 have hinc : wr (x1 + 1) = x1 + 1 := du (by omega) (by omega)
 have hfit : fits (x1 + 1).toNat 104 = true := oz (by omega) (Nat.le_trans (Nat.mul_le_mul_right 104 (show (x1 + 1).toNat ≤ 1000001 by omega)) (by decide))
 refine bv0 (m := x1 + 1) (zs := [vs [], nilS, nilS, vi 0, nilS, vi 0]) (zz := zTV) M4 (by omega) (by show some (vi (wr (x1 + 1))) = _; rw [hinc]) (by show some (vi (wr (x1 + 1))) = _; rw [hinc]) rfl rfl rfl hfit (fun i8 w8 h8 M8 => ?_)
 refine ab (v := .agg [vs [], nilS, nilS, nilS, nilS, .os i8 w8 0 (x1 + 1).toNat, nilS, nilS, nilS]) (nt (cs := [vs [], nilS, nilS, nilS, nilS, .os i8 w8 0 (x1 + 1).toNat, nilS, nilS, nilS]) rfl rfl) ?_
 refine dh (x := .agg [vs [], nilS, nilS, nilS, nilS, nilS, nilS, nilS, nilS]) M8 rfl rfl (fun i5 w5 h5 M5 => ?_)
 refine db (k := 0) (v := .agg [vs [], nilS, nilS, nilS, nilS, .os i8 w8 0 (x1 + 1).toNat, nilS, nilS, nilS]) M5 rfl rfl rfl rfl (fun h6 M6 => aw (ai ?_))
 replace M6 : Mem h6 [⟨.op i5 w5 0, 31, 9, [.agg [vs [], nilS, nilS, nilS, nilS, .os i8 w8 0 (x1 + 1).toNat, nilS, nilS, nilS]]⟩, ⟨.os i8 w8 0 (x1 + 1).toNat, 87, 6, List.replicate (x1 + 1).toNat zTV⟩, ⟨.op i4 w4 0, 31, 9, [.agg [vs [], nilS, nilS, nilS, nilS, nilS, nilS, nilS, nilS]]⟩] := M6
 refine ah (af ?_)
 refine ab (bf rfl) (ab (cp (k := 0) (off := 5) (w := .os i8 w8 0 (x1 + 1).toNat) M6 rfl rfl rfl) (ab (au rfl) ?_))
 obtain ⟨wt, gt, rt⟩ := aa.g_Tables r0
 refine ab (bz rfl gt) (ab (br rfl (TR.cnt _ rt) (TR.agg _ rt)) (ab (au rfl) ?_))
 obtain ⟨e0, a0, q0⟩ := dl (i := x1) rt h0 h1
 obtain ⟨wk, gk, rk⟩ := az.g_Keys q0
 refine ab (bq rfl rfl a0) (ab (bz rfl gk) (ab (br rfl (TR.cnt _ rk) (TR.agg _ rk)) ?_))
 obtain ⟨d, f1, s1⟩ := dk4 rk (by omega)
 refine cL f1 rfl rfl (aq (TR.clo _ rk) bg) ?_
 refine ab (v := .op i8 w8 (0 + x1.toNat * 6)) (bq rfl rfl (by have := dv1 (id := i8) (ver := w8) (off := 0) (n := (x1 + 1).toNat) (j := x1.toNat) (k := .i64) (by omega) 6; rw [Int.toNat_of_nonneg h0] at this; exact this)) (ab (bf rfl) ?_)
 refine cw0 (k := 1) (cs := [vs [], nilS, nilS, vi 0, nilS, vi 0]) (ds := [d]) M6 rfl rfl rfl (by rw [List.getElem?_replicate, if_pos (by omega)]; rfl) (af0 (TR.cnt _ s1) (TR.agg _ s1)) rfl (by simp) (fun h7 M7 => aw (ai ?_))
 replace M7 : Mem h7 [⟨.op i5 w5 0, 31, 9, [.agg [vs [], nilS, nilS, nilS, nilS, .os i8 w8 0 (x1 + 1).toNat, nilS, nilS, nilS]]⟩, ⟨.os i8 w8 0 (x1 + 1).toNat, 87, 6, (List.replicate (x1 + 1).toNat zTV).set x1.toNat (.agg [vs [], d, nilS, vi 0, nilS, vi 0])⟩, ⟨.op i4 w4 0, 31, 9, [.agg [vs [], nilS, nilS, nilS, nilS, nilS, nilS, nilS, nilS]]⟩] := M7
 refine ah (af (ab (fw (k := 0) M7 rfl rfl rfl) ?_))
 refine db (k := 2) (v := .agg [vs [], nilS, nilS, nilS, nilS, .os i8 w8 0 (x1 + 1).toNat, nilS, nilS, nilS]) M7 rfl rfl rfl rfl (fun h9 M9 => aw (ai ?_))
 replace M9 : Mem h9 [⟨.op i5 w5 0, 31, 9, [.agg [vs [], nilS, nilS, nilS, nilS, .os i8 w8 0 (x1 + 1).toNat, nilS, nilS, nilS]]⟩, ⟨.os i8 w8 0 (x1 + 1).toNat, 87, 6, (List.replicate (x1 + 1).toNat zTV).set x1.toNat (.agg [vs [], d, nilS, vi 0, nilS, vi 0])⟩, ⟨.op i4 w4 0, 31, 9, [.agg [vs [], nilS, nilS, nilS, nilS, .os i8 w8 0 (x1 + 1).toNat, nilS, nilS, nilS]]⟩] := M9
 have hA : All2 az.t.R (ownP x0 x1).Tables ((List.replicate (x1 + 1).toNat zTV).set x1.toNat (.agg [vs [], d, nilS, vi 0, nilS, vi 0])) := (All2.rep ek9 _).set ⟨_, _, _, rfl, s1, gu, gu⟩
 obtain ⟨r, d1, s2⟩ := bs5 (P := Tryz.prog) (M9.at (k := 1) rfl) rfl hA.clo
 have cl : ∀ v, closed v = true → DeepC Tryz.prog h9 v v := fun v hv => oo hv
 refine dw (.cell rfl (jk (k := 2) M9 rfl rfl) .nil) (bs9 (ds := [vs [], nilS, nilS, nilS, nilS, r, nilS, nilS, nilS]) ⟨cl _ rfl, cl _ rfl, cl _ rfl, cl _ rfl, cl _ rfl, d1, cl _ rfl, cl _ rfl, cl _ rfl, trivial⟩) ?_
 exact ⟨_, _, _, _, _, _, _, _, rfl, gu, gu, gu, gu, ⟨⟨_, s2, hA⟩, by show ((List.replicate _ _).set _ _).length ≤ _; simp; omega⟩, gu, gu, gu⟩
theorem en8 {x0 c0 : ak} {v0 w0 : PV} (r0 : ak.t.R x0 v0) (a0 : ak.t.R c0 w0) : FnR Tryz.prog 41 [v0, .fp w0] (vb (jp x0.Entry c0.Entry)) := by
 obtain ⟨r, h1, rfl⟩ : ∃ r, FnR Tryz.prog 41 [v0, .fp w0] r ∧ r = vb (jp x0.Entry c0.Entry) := by
  refine fnE bw6 (by simp) ?_
  refine ah (af (ab (dt rfl (TR.cnt ak.t r0)) (ab (v := vb false) (au rfl) (aw (ai ?_)))))
  obtain ⟨we, ge, re⟩ := ak.g_Entry r0
  obtain ⟨wf, gf, rf⟩ := ak.g_Entry a0
  refine ah (af (ab (bz rfl ge) (ab (br rfl (TR.cnt _ re) (TR.agg _ re)) (ab (bz rfl gf) (ab (br rfl (TR.cnt _ rf) (TR.agg _ rf)) ?_)))))
  refine cL (dt3 re rf) rfl rfl (aq (TR.clo _ re) (aq (TR.clo _ rf) bg)) (ab (au rfl) (aw (ai ?_)))
  exact dw (.tmp rfl .nil) (ck rfl) rfl
 exact h1
theorem es2 {c0 : ak} {w0 : PV} (a0 : ak.t.R c0 w0) : (tFn Tryz.prog ak.t tB).R (fun r => jp r.Entry c0.Entry) (.fn (.func 41) [] [.fp w0]) :=
 ⟨41, [], _, rfl, rfl, by simp [closedL, closed, TR.clo _ a0], fun a va ra => ⟨_, en8 ra a0, rfl⟩⟩
theorem ep0 {x0 : bh} {v0 : PV} (r0 : bh.t.R x0 v0) : FnR Tryz.prog 83 [v0] (vb (decide (x0.Kind = 2))) := by
 obtain ⟨r, h1, rfl⟩ : ∃ r, FnR Tryz.prog 83 [v0] r ∧ r = vb (decide (x0.Kind = 2)) := by
  refine fnE bw0 (by simp) ?_
  refine ah (af (ab (dt rfl (TR.cnt bh.t r0)) (ab (v := vb false) (au rfl) (aw (ai ?_)))))
  refine ah (af (ab (bz rfl (bh.g_Kind r0)) (ab (br rfl rfl rfl) (ab (ba rfl rfl oe) (ab (au rfl) (aw (ai ?_)))))))
  exact dw (.tmp rfl .nil) (ck rfl) rfl
 exact h1
theorem en4 : (tFn Tryz.prog bh.t tB).R (fun k => decide (k.Kind = 2)) (.fn (.func 83) [] []) :=
 ⟨83, [], [], rfl, rfl, rfl, fun a va ra => ⟨_, ep0 ra, rfl⟩⟩
def nilP : PV := .sc (.pointer none)
def trF : Tr → PV
 | .nil => nilP
 | .node l r s v => .fp (.agg [trF l, trF r, vb s, vi v])
def TrM : Tr → PV → List Ent → Prop
 | .nil, p, L => p = nilP ∧ L = []
 | .node l r s v, p, L => ∃ id ver pl pr Ll Lr, p = .op id ver 0 ∧ L = ⟨.op id ver 0, 151, 4, [.agg [pl, pr, vb s, vi v]]⟩ :: (Ll ++ Lr) ∧ TrM l pl Ll ∧ TrM r pr Lr
theorem as6 : ∀ t, closed (trF t) = true
 | .nil => rfl
 | .node l r s v => by simp [trF, closed, closedL, as6 l, as6 r]
theorem ct0 : ∀ t, cnt (trF t) = some 1
 | .nil => rfl
 | .node _ _ _ _ => rfl
theorem cv0 : ∀ t, (trF t).isAgg = false
 | .nil => rfl
 | .node _ _ _ _ => rfl
theorem TrM.cnt {t : Tr} {p : PV} {L : List Ent} (H : TrM t p L) : cnt p = some 1 := by
 cases t with
 | nil => rw [H.1]; rfl
 | node l r s v => obtain ⟨_, _, _, _, _, _, rfl, _⟩ := H; rfl
theorem TrM.agg {t : Tr} {p : PV} {L : List Ent} (H : TrM t p L) : p.isAgg = false := by
 cases t with
 | nil => rw [H.1]; rfl
 | node l r s v => obtain ⟨_, _, _, _, _, _, rfl, _⟩ := H; rfl
theorem TrM.deep {P : Program} {h : Heap} {L0 : List Ent} (M : Mem h L0) : ∀ {t : Tr} {p : PV} {L : List Ent}, TrM t p L → (∀ e ∈ L, e ∈ L0) → DeepC P h p (trF t)
 | .nil, p, L, H, _ => by rw [H.1]; exact oo rfl
 | .node l r s v, p, L, H, hs => by
  obtain ⟨id, ver, pl, pr, Ll, Lr, rfl, rfl, h1, h2⟩ := H
  obtain ⟨k, hk⟩ := List.getElem?_of_mem (hs _ List.mem_cons_self)
  exact bu7 M hk ⟨TrM.deep M h1 fun e he => hs e (by simp [he]), TrM.deep M h2 fun e he => hs e (by simp [he]), oo rfl, oo rfl, trivial⟩
theorem by8 {P : Program} {h : Heap} {v d : PV} (H : DeepC P h v d) : DeepC P h (.fp v) (.fp d) := by
 refine ⟨H.1, rfl, fun k hk w0 F0 x us R hv => ?_⟩
 simp only [VRC] at hv ⊢
 obtain ⟨b, o, xs, rfl, hF, hc, hr⟩ := hv
 exact ⟨b, o, xs, rfl, (VRC_sees (P := P) (qj R) (.fp (.agg [])) _ rfl (by simp only [VRC]; exact ⟨b, o, [], rfl, hF, by intro j u hj; simp at hj, trivial⟩) |> fun q => by simp only [VRC] at q; obtain ⟨b', o', xs', e, hF', _⟩ := q; simp at e; rw [e.1]; exact hF'), hc, H.2.2 k hk w0 F0 x xs R hr⟩
def triP (w : Int) (p : PV) : PV := .fp (.agg [vi w, p])
theorem co8 {P : Program} {h : Heap} {L0 : List Ent} (M : Mem h L0) {t : Tr} {p : PV} {L : List Ent} {w : Int} (H : TrM t p L) (hs : ∀ e ∈ L, e ∈ L0) : Deep P h (triP w p) (triP w (trF t)) :=
 (by8 (v := .agg [vi w, p]) (d := .agg [vi w, trF t]) ⟨by simp [closed, closedL, as6], rfl, fun k hk w0 F0 x us R hv => by
  have H2 : DeepCL P h [vi w, p] [vi w, trF t] := ⟨oo rfl, TrM.deep M H hs, trivial⟩
  simp only [VRC] at hv ⊢
  exact H2.vrl hk R hv⟩).deep
theorem dk0 {w : Int} {l r : Tr} {s : Bool} {v : Int} : FnR Tryz.prog 96 [triP w (trF (.node l r s v))] (vb true) := by
 obtain ⟨r', h1, rfl⟩ : ∃ r', FnR Tryz.prog 96 [triP w (trF (.node l r s v))] r' ∧ r' = vb true := by
  refine fnE bx4 (by simp) ?_
  refine ah (af (ab (v := vb false) (au rfl) (aw (ai ?_))))
  refine ah (af (ab (au rfl) (ab (v := vb true) (ba rfl rfl rfl) (ab (au rfl) ?_))))
  refine am rfl rfl (au rfl) (am rfl rfl (dp rfl rfl) (am rfl rfl (bz (w := trF (.node l r s v)) rfl rfl) (am rfl rfl (br rfl rfl rfl) ?_)))
  refine am rfl rfl (v := vb true) (ba rfl rfl rfl) (ab (v := vb true) (vc rfl rfl rfl rfl) (ab (au rfl) (aw (ai ?_))))
  exact dw (.tmp rfl .nil) (ck rfl) rfl
 exact h1
theorem dr3 {w : Int} {p : PV} {x : BitVec 32} {n : Int} (hp : cnt p = some 1) (ha : p.isAgg = false) : FnR Tryz.prog 97 [triP w p, dx x, vi n] (vb (pfx w x n)) := by
 obtain ⟨r', h1, rfl⟩ : ∃ r', FnR Tryz.prog 97 [triP w p, dx x, vi n] r' ∧ r' = vb (pfx w x n) := by
  refine fnE ch0 (by simp) ?_
  refine ah (af (ab (v := vb false) (au rfl) (aw (ai ?_))))
  refine ah (af (ab (au rfl) (ab (v := vb (decide (0 ≤ n))) (ba rfl rfl tn) (ab (au rfl) ?_))))
  refine cn 7 (d := 16) (v := vb (decide (0 ≤ n) && decide (n ≤ w))) ?_ ?_
  ·intro S Q r
   cases decide (0 ≤ n)
   ·exact gN 6 rfl rfl rfl rfl rfl rfl
   ·intro k
    refine am rfl rfl (au rfl) (am rfl rfl (au rfl) (am rfl rfl (dp rfl rfl) (am rfl rfl (bz (w := vi w) rfl rfl) (am rfl rfl (br rfl rfl rfl) (am rfl rfl (ba rfl rfl bz2) ?_)))))
    exact gK rfl rfl rfl rfl rfl k
  refine mV rfl ?_
  refine cn 7 (d := 24) (v := vb (pfx w x n)) ?_ ?_
  ·intro S Q r
   unfold pfx
   cases (decide (0 ≤ n) && decide (n ≤ w))
   ·exact gN 6 rfl rfl rfl rfl rfl rfl
   ·intro k
    refine am rfl rfl (au rfl) (am rfl rfl (au rfl) (am rfl rfl (dp rfl rfl) (am rfl rfl (bz (w := vi w) rfl rfl) (am rfl rfl (br rfl rfl rfl) ?_))))
    refine kp rfl rfl (sj rfl rfl (aq rfl (aq rfl bg)) au9) ?_
    exact gK rfl rfl rfl rfl rfl k
  refine ab (au rfl) (aw (ai ?_))
  exact dw (.tmp rfl .nil) (ck rfl) rfl
 exact h1
theorem dp9 {w : Int} {p : PV} {x : BitVec 32} {d : Int} (h0 : 0 ≤ d) (h1 : d < w) (h2 : w ≤ 32) : FnR Tryz.prog 98 [triP w p, dx x, vi d] (dx (bitT w x d)) := by
 obtain ⟨r', h1, rfl⟩ : ∃ r', FnR Tryz.prog 98 [triP w p, dx x, vi d] r' ∧ r' = dx (bitT w x d) := by
  refine fnE cc3 (by simp) ?_
  refine ah (af (ab (v := dx 0#32) (au rfl) (aw (ai ?_))))
  have e1 : wr (w - 1) = w - 1 := du (by omega) (by omega)
  have e2 : wr (w - 1 - d) = w - 1 - d := du (by omega) (by omega)
  refine ah (af (ab (au rfl) (ab (au rfl) (ab (dp rfl rfl) (ab (bz (w := vi w) rfl rfl) (ab (br rfl rfl rfl) ?_))))))
  refine ab (v := vi (w - 1)) (ba rfl rfl (by rw [← e1]; exact af9)) (ab (au rfl) (ab (v := vi (w - 1 - d)) (ba rfl rfl (by rw [← e2]; exact af9)) ?_))
  refine ab (ba rfl rfl (bm2 (by omega))) (ab (ba (b := dx 1#32) rfl rfl cf5) (ab (au rfl) (aw (ai ?_))))
  exact dw (.tmp rfl .nil) (ck rfl) rfl
 exact h1
def Zip (p0 : PV) (R0 : List Ent) (b : PV) (R : List Ent) (plug : Tr → Tr) : Prop := ∀ s Ls, TrM s b Ls → ∃ L', TrM (plug s) p0 L' ∧ (Ls ++ R).Perm (L' ++ R0)
theorem cg8 (p0 : PV) (R0 : List Ent) : Zip p0 R0 p0 R0 id := fun s Ls H => ⟨Ls, H, .refl _⟩
theorem ee1 {p0 : PV} {R0 R : List Ent} {plug : Tr → Tr} {id ver : Nat} {pl pr : PV} {Lr : List Ent} {r : Tr} {s : Bool} {v : Int} (Z : Zip p0 R0 (.op id ver 0) R plug) (hr : TrM r pr Lr) : Zip p0 R0 pl (⟨.op id ver 0, 151, 4, [.agg [pl, pr, vb s, vi v]]⟩ :: (Lr ++ R)) fun q => plug (.node q r s v) := fun q Ls H => by
 obtain ⟨L', h1, h2⟩ := Z (.node q r s v) _ ⟨id, ver, pl, pr, Ls, Lr, rfl, rfl, H, hr⟩
 refine ⟨L', h1, .trans ?_ h2⟩
 classical exact List.perm_iff_count.2 fun a => by simp only [List.count_append, List.count_cons, List.cons_append]; omega
theorem ek5 {p0 : PV} {R0 R : List Ent} {plug : Tr → Tr} {id ver : Nat} {pl pr : PV} {Ll : List Ent} {l : Tr} {s : Bool} {v : Int} (Z : Zip p0 R0 (.op id ver 0) R plug) (hl : TrM l pl Ll) : Zip p0 R0 pr (⟨.op id ver 0, 151, 4, [.agg [pl, pr, vb s, vi v]]⟩ :: (Ll ++ R)) fun q => plug (.node l q s v) := fun q Ls H => by
 obtain ⟨L', h1, h2⟩ := Z (.node l q s v) _ ⟨id, ver, pl, pr, Ll, Ls, rfl, rfl, hl, H⟩
 refine ⟨L', h1, .trans ?_ h2⟩
 classical exact List.perm_iff_count.2 fun a => by simp only [List.count_append, List.count_cons, List.cons_append]; omega
theorem bb1 {P : Program} {h : Heap} {p0 b : PV} {R0 R Ls : List Ent} {plug : Tr → Tr} {s : Tr} {w : Int} (Z : Zip p0 R0 b R plug) (H : TrM s b Ls) (M : Mem h (Ls ++ R)) : Deep P h (triP w p0) (triP w (trF (plug s))) := by
 obtain ⟨L', h1, h2⟩ := Z s Ls H
 exact co8 (M.perm h2) h1 fun e he => by simp [he]
theorem dx9 {w : Int} {h : Heap} {R : List Ent} (hm : fa w ≠ 0#32) (M : Mem h R) : ∃ r h', FnX Tryz.prog 85 [vi w] h r h' ∧ ∃ p L, r = .tup [triP w p, vi 0] ∧ TrM (.node .nil .nil false 0) p L ∧ Mem h' (L ++ R) := by
 refine fnX co5 (by simp) ?_
 refine ah (af (ab (v := nilP) (au rfl) (ab (v := vi 0) (au rfl) (aw (ai ?_)))))
 refine ah (ah (af (ab (au rfl) (cL yw rfl rfl (aq rfl bg) ?_))))
 refine ab (v := vb (decide (fa w = 0#32))) (ba (b := dx 0#32) rfl rfl cb8) (aw (ai (bc rfl (fun hc => ?_) fun hc => ?_)))
 ·simp only [decide_eq_true_eq] at hc; exact absurd hc hm
 ·refine ay (ai (ah (af (ab (au rfl) ?_))))
  refine ab (v := .agg [nilP, nilP, vb false, vi 0]) (nt (cs := [nilP, nilP, vb false, vi 0]) rfl rfl) ?_
  refine wy M rfl rfl (fun i9 w9 h9 M9 => ?_)
  refine ab (v := .agg [vi w, .op i9 w9 0]) (nt (cs := [vi w, .op i9 w9 0]) rfl rfl) (ab (dt rfl rfl) (ab (au rfl) (ab (v := vi 0) (au rfl) (aw (ai ?_)))))
  exact ub (.tmp rfl (.tmp rfl .nil)) ⟨.op i9 w9 0, _, rfl, ⟨i9, w9, nilP, nilP, [], [], rfl, rfl, ⟨rfl, rfl⟩, ⟨rfl, rfl⟩⟩, M9⟩
theorem bi5 {S : List Fr} {Q : Post} {w n i : Int} {x : BitVec 32} {p0 : PV} {R0 : List Ent} {res : Tr} (hn : n ≤ w) (hw : w ≤ 32)
  (K : ∀ {h : Heap} {b : PV} {Ls R : List Ent} {l r : Tr} {s : Bool} {v : Int} {plug : Tr → Tr}, TrM (.node l r s v) b Ls → Zip p0 R0 b R plug → plug (fin i (.node l r s v)) = res → Mem h (Ls ++ R) → PX Tryz.prog 1 S Q [(9, b), (3, vi i)] h) :
  ∀ (m : Nat) {d : Int} {h : Heap} {b : PV} {Ls R : List Ent} {l r : Tr} {s : Bool} {v : Int} {plug : Tr → Tr}, m = (n - d).toNat → 0 ≤ d → d ≤ n → TrM (.node l r s v) b Ls → Zip p0 R0 b R plug → plug (ins w x i m d (.node l r s v)) = res → Mem h (Ls ++ R) →
   RC Tryz.prog (.loop av0) S Q [(27, vi d), (26, vi n), (9, b), (3, vi i), (1, dx x), (0, triP w p0)] h
 | 0, d, h, b, Ls, R, l, r, s, v, plug, hm, h0, h1, HT, Z, hp, M => by
  refine bt ?_
  refine ah (af (ab (ba rfl rfl cy) (aw (ai (ah (bc rfl (fun hc => ?_) fun hc => ?_))))))
  ·simp only [decide_eq_true_eq] at hc; omega
  ·exact dm (fb (df (wP (K HT Z hp M) rfl)))
 | m + 1, d, h, b, Ls, R, l, r, s, v, plug, hm, h0, h1, HT, Z, hp, M => by
  have hlt : d < n := by omega
  refine bt ?_
  refine ah (af (ab (ba rfl rfl cy) (aw (ai (ah (bc rfl (fun hc => ?_) fun hc => ?_))))))
  ·refine ay (ai (ah (bd (ah (af (ab (au rfl) (ab (au rfl) (aw (ai ?_)))))))))
   have hinc : wr (d + 1) = d + 1 := du (by omega) (by omega)
   have hz := bb1 (P := Tryz.prog) (w := w) Z HT M
   refine ah (af (ab (au rfl) (ab (au rfl) (ab (au rfl) ?_))))
   refine wz (v := dx (bitT w x d)) (au7 rfl rfl (xh hz (xh (ck rfl) (xh (ck rfl) bh0))) (dp9 h0 (by omega) hw) rfl) (ab (au rfl) (aw (ai ?_)))
   obtain ⟨id, ver, pl, pr, Ll, Lr, rfl, rfl, hl, hr⟩ := HT
   rcases aw8 w x d with hb | hb
   ·rw [hb]
    have a1 : plug (.node (ins w x i m (d + 1) (mk l)) r s v) = res := by rw [← hp, ins, hb]; rfl
    have a0 : ∀ {h' : Heap} {q : PV} {Lq : List Ent} {l' r' : Tr} {s' : Bool} {v' : Int}, mk l = .node l' r' s' v' → TrM (.node l' r' s' v') q Lq → Mem h' (⟨.op id ver 0, 151, 4, [.agg [q, pr, vb s, vi v]]⟩ :: (Lq ++ (Lr ++ R))) →
      RC Tryz.prog (.loop av0) S Q [(27, vi (d + 1)), (26, vi n), (9, q), (3, vi i), (1, dx x), (0, triP w p0)] h' := fun {h' q Lq l' r' s' v'} em H' M' =>
     bi5 hn hw K m (plug := fun q => plug (.node q r s v)) (by omega) (by omega) (by omega) H' (ee1 Z hr) (by rw [em] at a1; exact a1) (M'.perm (by classical exact List.perm_iff_count.2 fun a => by simp only [List.count_append, List.count_cons, List.cons_append]; omega))
    replace M : Mem h (⟨.op id ver 0, 151, 4, [.agg [pl, pr, vb s, vi v]]⟩ :: (Ll ++ Lr ++ R)) := M
    refine ah (ah (af (ab (au rfl) (ab (au rfl) (ab (dp rfl rfl) (ab (bf rfl) (ab (v := .op id ver (0 + 0 + 0 * 1)) (qz rfl rfl rfl) ?_)))))))
    refine ab (cp (k := 0) (off := 0) (w := pl) M rfl rfl (by have e1 := TrM.agg hl; exact mk1 e1)) ?_
    cases l with
    | nil =>
     obtain ⟨rfl, rfl⟩ := hl
     refine ab (v := vb true) (ba rfl rfl rfl) (aw (ai (bc rfl (fun hd => ?_) fun hd => by cases hd)))
     refine af (ab (au rfl) (ab (au rfl) ?_))
     refine ab (v := .agg [nilP, nilP, vb false, vi 0]) (nt (cs := [nilP, nilP, vb false, vi 0]) rfl rfl) ?_
     refine wy M rfl rfl (fun i2 w2 h2 M2 => ?_)
     refine ab (dp rfl rfl) (ab (bf rfl) (ab (v := .op id ver (0 + 0 + 0 * 1)) (qz rfl rfl rfl) ?_))
     refine jx (k := 1) (off := 0) (v := .op i2 w2 0) M2 rfl rfl rfl rfl rfl (by simp) (fun h3 M3 => aw (ai ?_))
     replace M3 : Mem h3 (⟨.op i2 w2 0, 151, 4, [.agg [nilP, nilP, vb false, vi 0]]⟩ :: ⟨.op id ver 0, 151, 4, [.agg [.op i2 w2 0, pr, vb s, vi v]]⟩ :: ([] ++ Lr ++ R)) := M3
     refine af (ab (au rfl) (ab (au rfl) (ab (dp rfl rfl) (ab (bf rfl) (ab (v := .op id ver (0 + 0 + 0 * 1)) (qz rfl rfl rfl) ?_)))))
     refine ab (cp (k := 1) (off := 0) (w := .op i2 w2 0) M3 rfl rfl rfl) (ab (au rfl) (aw (dj (ai ?_))))
     refine af (ab (ba rfl rfl ep) (ab (au rfl) (aw (cx ?_))))
     refine li ?_ (a0 rfl ⟨i2, w2, nilP, nilP, [], [], rfl, rfl, ⟨rfl, rfl⟩, ⟨rfl, rfl⟩⟩ (M3.perm (by classical exact List.perm_iff_count.2 fun a => by simp only [List.count_append, List.count_cons, List.count_nil, List.cons_append]; omega)))
     exact ko (by show some (vi (wr (d + 1))) = _; rw [hinc]) (sB rfl)
    | node l1 r1 s1 v1 =>
     have a2 := hl
     obtain ⟨ia, va, pa, pb, La, Lb, rfl, rfl, ha, hb'⟩ := a2
     refine ab (v := vb false) (ba rfl rfl rfl) (aw (ai (bc rfl (fun hd => by cases hd) fun hd => ?_)))
     refine ay (ai ?_)
     refine af (ab (au rfl) (ab (au rfl) (ab (dp rfl rfl) (ab (bf rfl) (ab (v := .op id ver (0 + 0 + 0 * 1)) (qz rfl rfl rfl) ?_)))))
     refine ab (cp (k := 0) (off := 0) (w := .op ia va 0) M rfl rfl rfl) (ab (au rfl) (aw (dj (ai ?_))))
     refine af (ab (ba rfl rfl ep) (ab (au rfl) (aw (cx ?_))))
     refine li ?_ (a0 rfl hl (M.perm (by classical exact List.perm_iff_count.2 fun a => by simp only [List.count_append, List.count_cons, List.cons_append]; omega)))
     exact ko (by show some (vi (wr (d + 1))) = _; rw [hinc]) (sB rfl)
   ·rw [hb]
    have a1 : plug (.node l (ins w x i m (d + 1) (mk r)) s v) = res := by rw [← hp, ins, hb]; rfl
    have a0 : ∀ {h' : Heap} {q : PV} {Lq : List Ent} {l' r' : Tr} {s' : Bool} {v' : Int}, mk r = .node l' r' s' v' → TrM (.node l' r' s' v') q Lq → Mem h' (⟨.op id ver 0, 151, 4, [.agg [pl, q, vb s, vi v]]⟩ :: (Lq ++ (Ll ++ R))) →
      RC Tryz.prog (.loop av0) S Q [(27, vi (d + 1)), (26, vi n), (9, q), (3, vi i), (1, dx x), (0, triP w p0)] h' := fun {h' q Lq l' r' s' v'} em H' M' =>
     bi5 hn hw K m (plug := fun q => plug (.node l q s v)) (by omega) (by omega) (by omega) H' (ek5 Z hl) (by rw [em] at a1; exact a1) (M'.perm (by classical exact List.perm_iff_count.2 fun a => by simp only [List.count_append, List.count_cons, List.cons_append]; omega))
    replace M : Mem h (⟨.op id ver 0, 151, 4, [.agg [pl, pr, vb s, vi v]]⟩ :: (Ll ++ Lr ++ R)) := M
    refine ah (ah (af (ab (au rfl) (ab (au rfl) (ab (dp rfl rfl) (ab (bf rfl) (ab (v := .op id ver (0 + 0 + 1 * 1)) (qz rfl rfl rfl) ?_)))))))
    refine ab (cp (k := 0) (off := 1) (w := pr) M rfl rfl (by have e1 := TrM.agg hr; exact mk1 e1)) ?_
    cases r with
    | nil =>
     obtain ⟨rfl, rfl⟩ := hr
     refine ab (v := vb true) (ba rfl rfl rfl) (aw (ai (bc rfl (fun hd => ?_) fun hd => by cases hd)))
     refine af (ab (au rfl) (ab (au rfl) ?_))
     refine ab (v := .agg [nilP, nilP, vb false, vi 0]) (nt (cs := [nilP, nilP, vb false, vi 0]) rfl rfl) ?_
     refine wy M rfl rfl (fun i2 w2 h2 M2 => ?_)
     refine ab (dp rfl rfl) (ab (bf rfl) (ab (v := .op id ver (0 + 0 + 1 * 1)) (qz rfl rfl rfl) ?_))
     refine jx (k := 1) (off := 1) (v := .op i2 w2 0) M2 rfl rfl rfl rfl rfl (by simp) (fun h3 M3 => aw (ai ?_))
     replace M3 : Mem h3 (⟨.op i2 w2 0, 151, 4, [.agg [nilP, nilP, vb false, vi 0]]⟩ :: ⟨.op id ver 0, 151, 4, [.agg [pl, .op i2 w2 0, vb s, vi v]]⟩ :: (Ll ++ [] ++ R)) := M3
     refine af (ab (au rfl) (ab (au rfl) (ab (dp rfl rfl) (ab (bf rfl) (ab (v := .op id ver (0 + 0 + 1 * 1)) (qz rfl rfl rfl) ?_)))))
     refine ab (cp (k := 1) (off := 1) (w := .op i2 w2 0) M3 rfl rfl rfl) (ab (au rfl) (aw (dj (ai ?_))))
     refine af (ab (ba rfl rfl ep) (ab (au rfl) (aw (cx ?_))))
     refine li ?_ (a0 rfl ⟨i2, w2, nilP, nilP, [], [], rfl, rfl, ⟨rfl, rfl⟩, ⟨rfl, rfl⟩⟩ (M3.perm (by classical exact List.perm_iff_count.2 fun a => by simp only [List.count_append, List.count_cons, List.count_nil, List.cons_append]; omega)))
     exact ko (by show some (vi (wr (d + 1))) = _; rw [hinc]) (sB rfl)
    | node l1 r1 s1 v1 =>
     have a2 := hr
     obtain ⟨ia, va, pa, pb, La, Lb, rfl, rfl, ha, hb'⟩ := a2
     refine ab (v := vb false) (ba rfl rfl rfl) (aw (ai (bc rfl (fun hd => by cases hd) fun hd => ?_)))
     refine ay (ai ?_)
     refine af (ab (au rfl) (ab (au rfl) (ab (dp rfl rfl) (ab (bf rfl) (ab (v := .op id ver (0 + 0 + 1 * 1)) (qz rfl rfl rfl) ?_)))))
     refine ab (cp (k := 0) (off := 1) (w := .op ia va 0) M rfl rfl rfl) (ab (au rfl) (aw (dj (ai ?_))))
     refine af (ab (ba rfl rfl ep) (ab (au rfl) (aw (cx ?_))))
     refine li ?_ (a0 rfl hr (M.perm (by classical exact List.perm_iff_count.2 fun a => by simp only [List.count_append, List.count_cons, List.cons_append]; omega)))
     exact ko (by show some (vi (wr (d + 1))) = _; rw [hinc]) (sB rfl)
  ·simp only [decide_eq_false_iff_not] at hc; omega
theorem do4 {w n i : Int} {x : BitVec 32} {h : Heap} {R L : List Ent} {p : PV} {l r : Tr} {s : Bool} {v : Int} (HT : TrM (.node l r s v) p L) (M : Mem h (L ++ R)) (hw : w ≤ 32) :
  ∃ r' h', FnX Tryz.prog 87 [triP w p, dx x, vi n, vi i] h r' h' ∧ ∃ L', TrM (insT w x n i (.node l r s v)) p L' ∧ Mem h' (L' ++ R) := by
 refine fnX ca4 (by simp) ?_
 have hz := bb1 (P := Tryz.prog) (w := w) (cg8 p R) HT M
 refine ah (af (ab (v := vi 0) (au rfl) (aw (ai ?_))))
 refine ah (bd (ah (af (ab (au rfl) ?_))))
 refine wz (v := vb true) (au7 rfl rfl (xh hz bh0) dk0 rfl) (ab (io (k := true) rfl) (ab (au rfl) (aw (ai (bc rfl (fun hd => by cases hd) fun hd => ?_)))))
 refine ah (af (ab (au rfl) (ab (au rfl) (ab (au rfl) ?_))))
 refine wz (v := vb (pfx w x n)) (au7 rfl rfl (xh hz (xh (ck rfl) (xh (ck rfl) bh0))) (dr3 (ct0 _) (cv0 _)) rfl) (ab (io rfl) (ab (au rfl) (aw (ai (bc rfl (fun hd => ?_) fun hd => ?_)))))
 ·have hd : pfx w x n = false := by simpa using hd
  refine ah (af (ab (v := vi 9) (au rfl) (aw (ai ?_))))
  refine ub (.tmp rfl .nil) ⟨L, ?_, M⟩
  unfold insT
  rw [if_neg (by rw [hd]; simp)]
  exact HT
 ·have hd : pfx w x n = true := by simpa using hd
  have a2 := hd
  simp only [pfx, Bool.and_eq_true, decide_eq_true_eq] at a2
  refine ay (dj (ai (ah (af (ab (au rfl) (ab (dp rfl rfl) (ab (bz (w := p) rfl (mk1 (TrM.agg HT))) (ab (br rfl (TrM.cnt HT) (TrM.agg HT)) (ab (au rfl) (aw (ai ?_)))))))))))
  refine ah (ah (af (ab (au rfl) (ab (v := vi 0) (au rfl) (aw (ai (bd ?_)))))))
  refine wC (bi5 (x := x) (i := i) (n := n) (w := w) (res := insT w x n i (.node l r s v)) (by omega) hw ?_ n.toNat (d := 0) (by omega) (by omega) (by omega) HT (cg8 p R) (by unfold insT; rw [if_pos hd]; rfl) M) rfl
  ·intro h1 b Ls R1 l1 r1 s1 v1 plug H1 Z1 a0 M1
   obtain ⟨id, ver, pl, pr, Ll, Lr, rfl, rfl, hl, hr⟩ := H1
   have a1 : Mem h1 (⟨.op id ver 0, 151, 4, [.agg [pl, pr, vb s1, vi v1]]⟩ :: (Ll ++ Lr ++ R1)) := M1
   refine fe (ai (ah (ah (af (ab (au rfl) (ab (dp rfl rfl) (ab (bf rfl) (ab (cp (k := 0) (off := 2) (w := vb s1) a1 rfl rfl rfl) (aw (ai (bc rfl (fun he => ?_) fun he => ?_)))))))))))
   ·refine ah (af (ab (v := vi 7) (au rfl) (aw (ai ?_))))
    obtain ⟨L', h2, h3⟩ := Z1 (.node l1 r1 s1 v1) _ (show TrM (.node l1 r1 s1 v1) _ _ from ⟨id, ver, pl, pr, Ll, Lr, rfl, rfl, hl, hr⟩)
    refine ub (.tmp rfl .nil) ⟨L', ?_, M1.perm h3⟩
    rw [← a0]
    rw [ec1 he]
    exact h2
   ·refine ay (ai (ah (af (ab (au rfl) (ab (au rfl) (ab (au rfl) (ab (dp rfl rfl) (ab (bf rfl) ?_))))))))
    refine jx (k := 0) (off := 2) (v := vb true) a1 rfl rfl rfl rfl rfl (by simp) (fun h3 M3 => ?_)
    refine ab (dp rfl rfl) (ab (bf rfl) ?_)
    refine jx (k := 0) (off := 3) (cs := [pl, pr, vb true, vi v1]) (v := vi i) M3 rfl rfl rfl rfl rfl (by simp) (fun h4 M4 => aw (ai ?_))
    refine ah (af (ab (v := vi 0) (au rfl) (aw (ai ?_))))
    obtain ⟨L', h2, h5⟩ := Z1 (.node l1 r1 true i) _ (show TrM (.node l1 r1 true i) _ _ from ⟨id, ver, pl, pr, Ll, Lr, rfl, rfl, hl, hr⟩)
    refine ub (.tmp rfl .nil) ⟨L', ?_, Mem.perm M4 h5⟩
    rw [← a0]
    rw [ed6 he]
    exact h2
theorem ci6 : ∀ l : List (BitVec 32), closedL (l.map dx) = true
 | [] => rfl
 | _ :: l => by simp [closedL, closed, ci6 l]
def exV (e : Ex) : PV := .agg (vi e.n :: e.v.map dx)
theorem by6 {e : Ex} (h : ExB e) : cnt (exV e) = some 7 := by
 unfold exV cnt
 simp [PV.cellsOf, h.ln]
theorem dx6 {n : Int} {l : List (BitVec 32)} {x : BitVec 32} {k : Nat} (hk : k < l.length) : spl (vi n :: l.map dx) (1 + k) [dx x] = vi n :: (l.set k x).map dx := by
 unfold spl
 rw [show 1 + k = k + 1 by omega, List.take_succ_cons, List.cons_append]
 congr 1
 rw [List.map_set, List.set_eq_take_append_cons_drop, if_pos (by simpa using hk)]
 simp
theorem dh5 {S : List Fr} {Q : Post} {x0 : List (BitVec 32)} {x1 : Int} {v0 : PV} (q : (tSl lr).R x0 v0) (hl : x0.length ≤ 1000000) {i4 w4 i5 w5 : Nat} {z4 : PV}
  (K : ∀ {h : Heap}, Mem h [⟨.op i5 w5 0, 90, 7, [exV (pk x0 x1)]⟩, ⟨.op i4 w4 0, 90, 7, [z4]⟩] → PX Tryz.prog 0 S Q [(5, .op i5 w5 0), (4, .op i4 w4 0)] h) :
  ∀ (m : Nat) {i : Int} {st : Ex} {h : Heap}, m = Int.toNat ((x0.length : Int) - i) → 0 ≤ i → i ≤ x0.length → ExB st → pkL x0 x1 m i st = pk x0 x1 → Mem h [⟨.op i5 w5 0, 90, 7, [exV st]⟩, ⟨.op i4 w4 0, 90, 7, [z4]⟩] →
   RC Tryz.prog (.loop bn3) S Q [(10, vi i), (9, vi (x0.length : Int)), (8, v0), (5, .op i5 w5 0), (4, .op i4 w4 0), (1, vi x1)] h
 | 0, i, st, h, hm, h0, h1, hb, hp, M => by
  refine bt ?_
  refine ah (af (ab (ba rfl rfl cy) (aw (ai (ah (bc rfl (fun hc => ?_) fun hc => ?_))))))
  ·simp only [decide_eq_true_eq] at hc; omega
  ·have hp : st = pk x0 x1 := hp
   rw [hp] at M
   exact dm (fb (df (wP (K M) rfl)))
 | m + 1, i, st, h, hm, h0, h1, hb, hp, M => by
  have hlt : i < (x0.length : Int) := by omega
  refine bt ?_
  refine ah (af (ab (ba rfl rfl cy) (aw (ai (ah (bc rfl (fun hc => ?_) fun hc => ?_))))))
  ·refine ay (ai (ah (bd (ah (af (mV rfl ?_))))))
   obtain ⟨g0, e0, q0⟩ := dl (i := i) q h0 hlt
   have q0 : g0 = dx (ix x0 i) := q0
   subst q0
   refine ab (bq rfl rfl e0) (ab (br rfl rfl rfl) (mV rfl (mV rfl (aw (ai ?_)))))
   have fin : ∀ {h' : Heap} {st' : Ex}, ExB st' → pkL x0 x1 m (i + 1) st' = pk x0 x1 → Mem h' [⟨.op i5 w5 0, 90, 7, [exV st']⟩, ⟨.op i4 w4 0, 90, 7, [z4]⟩] →
     RC Tryz.prog (.loop bn3) S Q [(10, vi (i + 1)), (9, vi (x0.length : Int)), (8, v0), (5, .op i5 w5 0), (4, .op i4 w4 0), (1, vi x1)] h' := fun b p M' => dh5 q hl K m (by omega) (by omega) (by omega) b p M'
   have hinc : wr (i + 1) = i + 1 := du (by omega) (by omega)
   have g0 : fieldR 0 1 false (exV st) = some (vi st.n) := rfl
   refine ah (af (mV rfl (mV rfl (ab (v := vb (!decide (i = x1))) (ba rfl rfl ma) (mV rfl ?_)))))
   refine cn 4 (d := 22) (v := vb (!decide (i = x1) && decide (st.n < 6))) ?_ ?_
   ·intro S Q r
    cases (!decide (i = x1))
    ·exact gN 3 rfl rfl rfl rfl rfl rfl
    ·intro k
     refine am rfl rfl (bf rfl) (am rfl rfl (cp (k := 0) M rfl rfl g0) (am rfl rfl (ba rfl rfl cy) ?_))
     exact gK rfl rfl rfl rfl rfl k
   refine aw (ai (bc rfl (fun hd => ?_) fun hd => ?_))
   ·have hs : pkS x1 st i (ix x0 i) = ⟨st.n + 1, st.v.set st.n.toNat (ix x0 i)⟩ := by unfold pkS; rw [if_pos hd]
    have a1 : st.n < 6 := by simp only [Bool.and_eq_true, decide_eq_true_eq] at hd; exact hd.2
    have hk : st.n.toNat < st.v.length := by have := hb.ln; have := hb.lo; omega
    have hb' := hb.step (wo := x1) (i := i) (x := ix x0 i)
    rw [pkL, hs] at hp
    rw [hs] at hb'
    refine ah (af (ab (bf rfl) (ab (cp (k := 0) M rfl rfl g0) (mV rfl (ab (bf rfl) ?_)))))
    refine ab (ag3 rfl rfl hb.lo a1) ?_
    refine jx (off := 1 + st.n.toNat) (k := 0) (v := dx (ix x0 i)) M (by show some (PV.op i5 w5 (0 + 1 + st.n.toNat * 1)) = some (PV.op i5 w5 (0 + (1 + st.n.toNat))); rw [show 0 + 1 + st.n.toNat * 1 = 0 + (1 + st.n.toNat) by omega]) rfl rfl rfl rfl (by simp; omega) (fun h2 M2 => aw (ai ?_))
    rw [dx6 hk] at M2
    replace M2 : Mem h2 [⟨.op i5 w5 0, 90, 7, [exV ⟨st.n, st.v.set st.n.toNat (ix x0 i)⟩]⟩, ⟨.op i4 w4 0, 90, 7, [z4]⟩] := M2
    have g1 : fieldR 0 1 false (exV ⟨st.n, st.v.set st.n.toNat (ix x0 i)⟩) = some (vi st.n) := rfl
    refine af (ab (bf rfl) (ab (cp (k := 0) M2 rfl rfl g1) (ab (ba rfl rfl ep) (ab (bf rfl) ?_))))
    have a0 : wr (st.n + 1) = st.n + 1 := du (by have := hb.lo; omega) (by omega)
    refine jx (off := 0) (k := 0) (v := vi (st.n + 1)) M2 rfl (by show some (vi (wr (st.n + 1))) = _; rw [a0]) rfl rfl rfl (by simp) (fun h3 M3 => aw ?_)
    replace M3 : Mem h3 [⟨.op i5 w5 0, 90, 7, [exV ⟨st.n + 1, st.v.set st.n.toNat (ix x0 i)⟩]⟩, ⟨.op i4 w4 0, 90, 7, [z4]⟩] := M3
    refine dj (ai (af (ab (ba rfl rfl ep) (mV rfl (aw (cx ?_))))))
    refine li ?_ (fin hb' hp M3)
    exact ko (by show some (vi (wr (i + 1))) = _; rw [hinc]) (sB rfl)
   ·have hs : pkS x1 st i (ix x0 i) = st := by unfold pkS; rw [if_neg (by rw [hd]; simp)]
    rw [pkL, hs] at hp
    refine ay (dj (ai (af (ab (ba rfl rfl ep) (mV rfl (aw (cx ?_)))))))
    refine li ?_ (fin hb hp M)
    exact ko (by show some (vi (wr (i + 1))) = _; rw [hinc]) (sB rfl)
  ·simp only [decide_eq_false_iff_not] at hc; omega
theorem dw8 {x0 : List (BitVec 32)} {x1 : Int} {v0 : PV} (r0 : (tSl lr).R x0 v0) (hl : x0.length ≤ 1000000) : FnR Tryz.prog 51 [v0, vi x1] (exV (pk x0 x1)) := by
 obtain ⟨r, h1, rfl⟩ : ∃ r, FnR Tryz.prog 51 [v0, vi x1] r ∧ r = exV (pk x0 x1) := by
  refine fnE bx2 (by simp) ?_
  refine ah (af (dh (x := exV ⟨0, List.replicate 6 0#32⟩) (Mem.nil _) rfl rfl (fun i4 w4 h4 M4 => aw (ai ?_))))
  refine ah (af (dh (x := exV ⟨0, List.replicate 6 0#32⟩) M4 rfl rfl (fun i5 w5 h5 M5 => aw (ai ?_))))
  have b0 : ExB ⟨0, List.replicate 6 0#32⟩ := ⟨by decide, by decide, rfl⟩
  have hB : ExB (pk x0 x1) := ExB.pkL _ _ b0
  refine ah (ah (af (mV rfl (ab (cw rfl (cf r0 Tryz.underlying33 _)) (mV rfl (aw (ai (bd ?_))))))))
  refine wC (dh5 (x1 := x1) r0 hl ?_ x0.length (i := 0) (by omega) (by omega) (by omega) b0 rfl M5) rfl
  ·intro h M
   refine fe (ai (ah (af (ab (fw (k := 0) M rfl rfl rfl) ?_))))
   refine db (k := 1) (v := exV (pk x0 x1)) M rfl rfl rfl (by6 hB) (fun h' M' => aw (ai ?_))
   exact dw (.cell rfl (jk (k := 1) M' rfl rfl) .nil) (ck (by simp [exV, closed, closedL]; exact ci6 _)) rfl
 exact h1
theorem av3 : ∀ {a b : List (Value × PV)}, a.map encKV = b.map encKV → a = b
 | [], [], _ => rfl
 | [], _ :: _, h => by simp at h
 | _ :: _, [], h => by simp at h
 | (k, v) :: a, (k', v') :: b, h => by
  simp only [List.map_cons, List.cons.injEq] at h
  have h1 := h.1
  simp only [encKV, PV.agg.injEq, List.cons.injEq, PV.sc.injEq, and_true] at h1
  rw [h1.1, h1.2, av3 h.2]
def exL (e : Ex) : List Value := .int .i64 e.n :: e.v.map fun x => .int .u32 (x.toNat : Int)
def KS : List IntKind := [.i64, .u32, .u32, .u32, .u32, .u32, .u32]
theorem ar6 : ∀ l : List (BitVec 32), scW (l.map dx) = some (l.map fun x => .int .u32 (x.toNat : Int))
 | [] => rfl
 | x :: l => by
  have := ar6 l
  simp only [List.map_cons]
  show (scW (l.map dx)).map _ = _
  rw [this]
  rfl
theorem aj6 : ∀ l : List (BitVec 32), numsB (List.replicate l.length .u32) (l.map fun x => .int .u32 (x.toNat : Int)) = true
 | [] => rfl
 | x :: l => by
  simp only [List.length_cons, List.replicate_succ, List.map_cons, numsB, Bool.and_eq_true, beq_self_eq_true, true_and]
  refine ⟨?_, aj6 l⟩
  have := x.isLt
  simp only [Lit.wf, Bool.and_eq_true, decide_eq_true_eq]
  exact ⟨by show (0 : Int) ≤ _; omega, by show (x.toNat : Int) ≤ 4294967295; omega⟩
theorem ah7 {e : Ex} (h : ExB e) : numsB KS (exL e) = true := by
 have := aj6 e.v
 rw [h.ln] at this
 show numsB (.i64 :: List.replicate 6 .u32) (exL e) = true
 simp only [exL, numsB, Bool.and_eq_true, beq_self_eq_true, true_and]
 refine ⟨?_, this⟩
 have := h.lo
 have := h.hi
 simp only [Lit.wf, Bool.and_eq_true, decide_eq_true_eq]
 exact ⟨by show (-9223372036854775808 : Int) ≤ _; omega, by show _ ≤ (9223372036854775807 : Int); omega⟩
theorem br0 {e : Ex} (h : ExB e) : keyP KS (exV e) = some (exL e) := by
 have h1 : scW (vi e.n :: e.v.map dx) = some (exL e) := by
  show (scW (e.v.map dx)).map _ = _
  rw [ar6]
  rfl
 simp only [keyP, exV, h1, ah7 h, cond_true]
theorem ap1 : ∀ {a b : List (BitVec 32)}, (a.map fun x => Value.int .u32 (x.toNat : Int)) = (b.map fun x => Value.int .u32 (x.toNat : Int)) → a = b
 | [], [], _ => rfl
 | [], _ :: _, h => by simp at h
 | _ :: _, [], h => by simp at h
 | x :: a, y :: b, h => by
  simp only [List.map_cons, List.cons.injEq, Value.int.injEq, true_and] at h
  have := ap1 h.2
  have e1 : x = y := BitVec.eq_of_toNat_eq (by have := h.1; omega)
  rw [e1, this]
theorem cu0 {a b : Ex} (h : exL a = exL b) : a = b := by
 cases a; cases b
 simp only [exL, List.cons.injEq, Value.int.injEq, true_and] at h
 rw [h.1, ap1 h.2]
theorem al8 {a b : Ex} (ha : ExB a) (hb : ExB b) : isW (exL a) (.agg (exL b).toArray) = true ↔ b = a := by
 rw [ab0 (ah7 ha) (by simpa [kindW] using ah7 hb)]
 simp only [Value.agg.injEq]
 exact ⟨fun h => cu0 (by simpa using congrArg Array.toList h), fun h => by rw [h]⟩
def exM (l : List (Ex × PV)) : List (Value × PV) := l.map fun p => (.agg (exL p.1).toArray, p.2)
structure MapB {α : Type} (l : List (Ex × α)) : Prop where
 ok : ∀ p ∈ l, ExB p.1
 ds : l.Pairwise fun a b => a.1 ≠ b.1
theorem ba9 {l : List (Ex × PV)} (h : ∀ p ∈ l, ExB p.1) : (exM l).all (fun e => kindW KS e.1) = true := by
 rw [List.all_eq_true]
 intro x hx
 obtain ⟨p, hp, rfl⟩ := List.mem_map.1 hx
 simpa [kindW] using ah7 (h p hp)
theorem al9 : ∀ {l : List (Ex × PV)}, MapB l → distW (exM l) = true
 | [], _ => rfl
 | p :: l, h => by
  obtain ⟨h1, h2⟩ := List.pairwise_cons.1 h.ds
  have ih := al9 (l := l) ⟨fun q hq => h.ok q (by simp [hq]), h2⟩
  simp only [exM, List.map_cons, distW, Bool.and_eq_true]
  refine ⟨?_, ih⟩
  rw [List.all_eq_true]
  intro x hx
  obtain ⟨q, hq, rfl⟩ := List.mem_map.1 hx
  simp only [Bool.not_eq_true']
  rw [Bool.eq_false_iff]
  intro hc
  have := (al8 (h.ok p (by simp)) (h.ok q (by simp [hq]))).1 (by simpa using hc)
  exact h1 q hq this.symm
theorem bo9 {e : Ex} (he : ExB e) : ∀ {l : List (Ex × PV)}, (∀ p ∈ l, ExB p.1) → getW (exL e) (exM l) = wget l e
 | [], _ => rfl
 | p :: l, h => by
  have ih := bo9 he (l := l) fun q hq => h q (by simp [hq])
  have hp := h p (by simp)
  simp only [exM, List.map_cons, getW, wget]
  cases hi : isW (exL e) (.agg (exL p.1).toArray) with
  | true => rw [if_pos ((al8 he hp).1 hi)]; rfl
  | false =>
   rw [if_neg fun hc => by rw [(al8 he hp).2 hc] at hi; cases hi]
   exact ih
theorem bo0 {e : Ex} (he : ExB e) {v : PV} : ∀ {l : List (Ex × PV)}, (∀ p ∈ l, ExB p.1) → putW (exL e) v (exM l) = exM (wput l e v)
 | [], _ => rfl
 | p :: l, h => by
  have ih := bo0 he (v := v) (l := l) fun q hq => h q (by simp [hq])
  have hp := h p (by simp)
  simp only [exM, List.map_cons, putW, wput]
  cases hi : isW (exL e) (.agg (exL p.1).toArray) with
  | true => rw [if_pos ((al8 he hp).1 hi)]; rfl
  | false =>
   rw [if_neg fun hc => by rw [(al8 he hp).2 hc] at hi; cases hi]
   simp only [cond_false, List.map_cons, List.cons.injEq, true_and]
   exact ih
theorem bm7 {α : Type} {e : Ex} (he : ExB e) {v : α} : ∀ {l : List (Ex × α)}, MapB l → MapB (wput l e v) ∧ ∀ q ∈ wput l e v, q.1 = e ∨ ∃ p ∈ l, p.1 = q.1
 | [], _ => ⟨⟨fun p hp => by rw [List.mem_singleton.1 hp]; exact he, List.pairwise_singleton ..⟩, fun q hq => by rw [List.mem_singleton.1 hq]; exact .inl rfl⟩
 | p :: l, h => by
  obtain ⟨h1, h2⟩ := List.pairwise_cons.1 h.ds
  obtain ⟨hB, hk⟩ := bm7 he (v := v) (l := l) ⟨fun q hq => h.ok q (by simp [hq]), h2⟩
  unfold wput
  by_cases hc : p.1 = e
  ·rw [if_pos hc]
   refine ⟨⟨fun q hq => ?_, List.pairwise_cons.2 ⟨fun q hq => by show e ≠ q.1; rw [← hc]; exact h1 q hq, h2⟩⟩, fun q hq => ?_⟩
   ·rcases List.mem_cons.1 hq with rfl | hq
    ·exact he
    ·exact h.ok q (by simp [hq])
   ·rcases List.mem_cons.1 hq with rfl | hq
    ·exact .inl rfl
    ·exact .inr ⟨q, by simp [hq], rfl⟩
  ·rw [if_neg hc]
   refine ⟨⟨fun q hq => ?_, List.pairwise_cons.2 ⟨fun q hq => ?_, hB.ds⟩⟩, fun q hq => ?_⟩
   ·rcases List.mem_cons.1 hq with rfl | hq
    ·exact h.ok _ (by simp)
    ·exact hB.ok q hq
   ·rcases hk q hq with e1 | ⟨r, hr, e1⟩
    ·rw [e1]; exact hc
    ·rw [← e1]; exact h1 r hr
   ·rcases List.mem_cons.1 hq with rfl | hq
    ·exact .inr ⟨_, by simp, rfl⟩
    ·rcases hk q hq with e1 | ⟨r, hr, e1⟩
     ·exact .inl e1
     ·exact .inr ⟨r, by simp [hr], e1⟩
def exE (l : List (Ex × PV)) : List PV := (exM l).map encKV
theorem bt4 {h : Heap} {L : List Ent} {k id ver : Nat} {ty : TypeId} {l : List (Ex × PV)} {e : Ex} {z : Value} {ok : Bool} (M : Mem h L) (hk : L[k]? = some ⟨.om id ver, ty, 2, exE l⟩) (hB : MapB l) (he : ExB e) :
  lookW h KS z ok (.om id ver) (exV e) = some (bif ok then .tup [(wget l e).getD (.ofConst z), vb (wget l e).isSome] else (wget l e).getD (.ofConst z), h) := by
 obtain ⟨h1, ms, h2, h3⟩ := M.atF hk
 have hms : ms = exM l := (av3 h2).symm
 subst hms
 simp only [blk] at h3
 simp only [lookW, br0 he, h3]
 rw [if_pos ⟨trivial, ba9 hB.ok, al9 hB⟩, bo9 he hB.ok]
theorem az1 {α : Type} {e : Ex} {v : α} : ∀ {l : List (Ex × α)}, ∀ q ∈ wput l e v, q = (e, v) ∨ q ∈ l
 | [], q, hq => .inl (List.mem_singleton.1 hq)
 | p :: l, q, hq => by
  unfold wput at hq
  split at hq
  ·rcases List.mem_cons.1 hq with h | h
   ·exact .inl h
   ·exact .inr (by simp [h])
  ·rcases List.mem_cons.1 hq with h | h
   ·exact .inr (by simp [h])
   ·rcases az1 q h with h | h
    ·exact .inl h
    ·exact .inr (by simp [h])
theorem cu8 {l : List (Ex × PV)} {e : Ex} {v : PV} (h1 : ∀ x ∈ exE l, cnt x = some 2) (hv : cnt v = some 1) : ∀ x ∈ exE (wput l e v), cnt x = some 2 := by
 intro x hx
 obtain ⟨y, hy, rfl⟩ := List.mem_map.1 hx
 obtain ⟨q, hq, rfl⟩ := List.mem_map.1 hy
 rcases az1 q hq with rfl | hq
 ·rfl
 ·exact h1 _ (List.mem_map.2 ⟨_, List.mem_map.2 ⟨q, hq, rfl⟩, rfl⟩)
theorem cj3 {h : Heap} {L : List Ent} {k id ver : Nat} {ty : TypeId} {l : List (Ex × PV)} {e : Ex} {v : PV} (M : Mem h L) (hk : L[k]? = some ⟨.om id ver, ty, 2, exE l⟩) (hB : MapB l) (he : ExB e) (hv : cnt v = some 1) :
  ∃ h', updW h KS (.om id ver) (exV e) v = some (.tup [], h') ∧ Mem h' (L.set k ⟨.om id ver, ty, 2, exE (wput l e v)⟩) := by
 obtain ⟨h1, ms, h2, h3⟩ := M.atF hk
 have hms : ms = exM l := (av3 h2).symm
 subst hms
 have a0 := h3
 simp only [blk] at a0
 refine ⟨hput h id (.mp ver (exM (wput l e v))), ?_, M.upd hk ⟨?_, _, rfl, by simp [mr h3]⟩ (fun i hi => .inl hi) fun i hi hne => ?_⟩
 ·simp only [updW, br0 he, a0]
  rw [if_pos ⟨trivial, ba9 hB.ok, al9 hB⟩, bo0 he hB.ok]
  rfl
 ·intro x hx
  exact cu8 h1 hv x hx
 ·exact je _ _ _ _ fun e => hne (by simp [idOf, e])
theorem bd4 {P : Program} {S : List Fr} {Q : Post} {E : TEnv} {h : Heap} {L : List Ent} {r : List AOper} {hf : Bool} {d k id ver : Nat} {ty tm tk te : TypeId} {l : List (Ex × PV)} {e : Ex} {z : Value} {ok : Bool} {o o' : Operand} (M : Mem h L) (ex : evE E o = some (.om id ver)) (ei : evE E o' = some (exV e)) (hk : L[k]? = some ⟨.om id ver, ty, 2, exE l⟩) (hB : MapB l) (he : ExB e)
  (K : RD P r S Q ((d, bif ok then .tup [(wget l e).getD (.ofConst z), vb (wget l e).isSome] else (wget l e).getD (.ofConst z)) :: E) h) : RD P (⟨some d, .lookupW tm tk te KS z ok o o', none, hf⟩ :: r) S Q E h :=
 yg ⟨rfl, fun T hT => by show lookW h KS z ok (ev T o) (ev T o') = _; rw [dy hT ex, dy hT ei]; exact bt4 M hk hB he⟩ K
theorem bm6 {P : Program} {S : List Fr} {Q : Post} {E : TEnv} {h : Heap} {L : List Ent} {r : List AOper} {hf : Bool} {k id ver : Nat} {ty tm tk : TypeId} {l : List (Ex × PV)} {e : Ex} {v : PV} {o o' o'' : Operand} (M : Mem h L) (ex : evE E o = some (.om id ver)) (ei : evE E o' = some (exV e)) (ev' : evE E o'' = some v) (hk : L[k]? = some ⟨.om id ver, ty, 2, exE l⟩) (hB : MapB l) (he : ExB e) (hv : cnt v = some 1)
  (K : ∀ h', Mem h' (L.set k ⟨.om id ver, ty, 2, exE (wput l e v)⟩) → RD P r S Q E h') : RD P (⟨none, .mapUpdW tm tk KS o o' o'', none, hf⟩ :: r) S Q E h := by
 obtain ⟨h', h1, h2⟩ := cj3 M hk hB he hv
 exact ab7 ⟨rfl, fun T hT => by show updW h KS (ev T o) (ev T o') (ev T o'') = _; rw [dy hT ex, dy hT ei, dy hT ev', h1]⟩ (K h' h2)
def mpV (l : List (Ex × Int)) : List (Ex × PV) := l.map fun q => (q.1, vi q.2)
theorem bn0 {e : Ex} {i : Int} : ∀ l : List (Ex × Int), mpV (wput l e i) = wput (mpV l) e (vi i)
 | [] => rfl
 | p :: l => by
  have ih := bn0 (e := e) (i := i) l
  unfold mpV at ih
  simp only [mpV, wput, List.map_cons]
  by_cases h : p.1 = e
  ·rw [if_pos h, if_pos h]; rfl
  ·rw [if_neg h, if_neg h, List.map_cons, ih]
theorem ek4 {l : List (Ex × Int)} (h : MapB l) : MapB (mpV l) :=
 ⟨fun p hp => by obtain ⟨q, hq, rfl⟩ := List.mem_map.1 hp; exact h.ok q hq, List.pairwise_map.2 h.ds⟩
theorem MapB.nil {α : Type} : MapB ([] : List (Ex × α)) := ⟨fun p hp => (by cases hp), List.Pairwise.nil⟩
theorem MapB.put {α : Type} {l : List (Ex × α)} (h : MapB l) {e : Ex} (he : ExB e) (v : α) : MapB (wput l e v) := (bm7 he h).1
/-! Tries in a map -/
def TsM (w : Int) : List (Ex × Tr) → List (Ex × PV) → List Ent → Prop
 | [], [], N => N = []
 | (e, t) :: ts, (e', p) :: ps, N => e = e' ∧ ∃ pr Nt Ns, p = triP w pr ∧ t ≠ .nil ∧ TrM t pr Nt ∧ N = Nt ++ Ns ∧ TsM w ts ps Ns
 | _, _, _ => False
theorem TsM.B {w : Int} : ∀ {ts : List (Ex × Tr)} {ps : List (Ex × PV)} {N : List Ent}, TsM w ts ps N → ps.map (·.1) = ts.map (·.1)
 | [], [], _, _ => rfl
 | (e, t) :: ts, (e', p) :: ps, N, H => by
  obtain ⟨rfl, pr, Nt, Ns, _, _, _, _, h⟩ := H
  simp [h.B]
 | [], _ :: _, _, H => H.elim
 | _ :: _, [], _, H => H.elim
theorem bm4 {α β : Type} {l : List (Ex × α)} {k : List (Ex × β)} (h : k.map (·.1) = l.map (·.1)) (H : MapB l) : MapB k := by
 refine ⟨fun p hp => ?_, ?_⟩
 ·have : p.1 ∈ l.map (·.1) := h ▸ List.mem_map.2 ⟨p, hp, rfl⟩
  obtain ⟨q, hq, e⟩ := List.mem_map.1 this
  exact e ▸ H.ok q hq
 ·have h1 : (l.map (·.1)).Pairwise (· ≠ ·) := List.pairwise_map.2 H.ds
  rw [← h] at h1
  exact List.pairwise_map.1 h1
theorem TsM.absent {w : Int} {e : Ex} : ∀ {ts : List (Ex × Tr)} {ps : List (Ex × PV)} {N : List Ent}, TsM w ts ps N → wget ts e = none → wget ps e = none
 | [], [], _, _, _ => rfl
 | (a, t) :: ts, (b, p) :: ps, N, H, hn => by
  obtain ⟨rfl, pr, Nt, Ns, _, _, _, _, h⟩ := H
  unfold wget at hn ⊢
  by_cases hc : a = e
  ·rw [if_pos hc] at hn; cases hn
  ·rw [if_neg hc] at hn ⊢
   exact h.absent hn
 | [], _ :: _, _, H, _ => H.elim
 | _ :: _, [], _, H, _ => H.elim
theorem TsM.found {w : Int} {e : Ex} {t : Tr} : ∀ {ts : List (Ex × Tr)} {ps : List (Ex × PV)} {N : List Ent}, TsM w ts ps N → wget ts e = some t →
  ∃ pr Nt Nr, wget ps e = some (triP w pr) ∧ t ≠ .nil ∧ TrM t pr Nt ∧ N.Perm (Nt ++ Nr) ∧ ∀ t' Nt', t' ≠ .nil → TrM t' pr Nt' → ∃ N', TsM w (wput ts e t') ps N' ∧ (Nt' ++ Nr).Perm N'
 | (a, u) :: ts, (b, p) :: ps, N, H, hs => by
  obtain ⟨rfl, pr, Nt, Ns, rfl, h1, h2, rfl, h3⟩ := H
  unfold wget at hs ⊢
  by_cases hc : a = e
  ·rw [if_pos hc] at hs ⊢
   simp only [Option.some.injEq] at hs
   subst hs
   refine ⟨pr, Nt, Ns, rfl, h1, h2, .refl _, fun t' Nt' g1 g2 => ⟨Nt' ++ Ns, ?_, .refl _⟩⟩
   unfold wput
   rw [if_pos hc]
   exact ⟨hc.symm, pr, Nt', Ns, rfl, g1, g2, rfl, h3⟩
  ·rw [if_neg hc] at hs ⊢
   obtain ⟨qr, Mt, Mr, k1, k2, k3, k4, k5⟩ := h3.found hs
   refine ⟨qr, Mt, Nt ++ Mr, k1, k2, k3, ?_, fun t' Nt' g1 g2 => ?_⟩
   ·refine (k4.append_left Nt).trans ?_
    classical exact List.perm_iff_count.2 fun a => by simp only [List.count_append]; omega
   ·obtain ⟨N', j1, j2⟩ := k5 t' Nt' g1 g2
    refine ⟨Nt ++ N', ?_, .trans ?_ (j2.append_left Nt)⟩
    ·unfold wput
     rw [if_neg hc]
     exact ⟨rfl, pr, Nt, N', rfl, h1, h2, rfl, j1⟩
    ·classical exact List.perm_iff_count.2 fun a => by simp only [List.count_append]; omega
 | [], [], _, _, hs => by cases hs
 | [], _ :: _, _, H, _ => H.elim
 | _ :: _, [], _, H, _ => H.elim
theorem TsM.new {w : Int} {e : Ex} {t : Tr} {pr : PV} {Nt : List Ent} (ht : t ≠ .nil) (hT : TrM t pr Nt) : ∀ {ts : List (Ex × Tr)} {ps : List (Ex × PV)} {N : List Ent}, TsM w ts ps N → wget ts e = none → ∃ N', TsM w (wput ts e t) (wput ps e (triP w pr)) N' ∧ (Nt ++ N).Perm N'
 | [], [], N, H, _ => by
  have H : N = [] := H
  subst H
  exact ⟨Nt ++ [], ⟨rfl, pr, Nt, [], rfl, ht, hT, rfl, rfl⟩, .refl _⟩
 | (a, u) :: ts, (b, p) :: ps, N, H, hn => by
  obtain ⟨rfl, qr, Mt, Ns, rfl, h1, h2, rfl, h3⟩ := H
  unfold wget at hn
  by_cases hc : a = e
  ·rw [if_pos hc] at hn; cases hn
  ·rw [if_neg hc] at hn
   obtain ⟨N', j1, j2⟩ := h3.new ht hT hn
   refine ⟨Mt ++ N', ?_, .trans ?_ (j2.append_left Mt)⟩
   ·unfold wput
    rw [if_neg hc, if_neg hc]
    exact ⟨rfl, qr, Mt, N', rfl, h1, h2, rfl, j1⟩
   ·classical exact List.perm_iff_count.2 fun a => by simp only [List.count_append]; omega
 | [], _ :: _, _, H, _ => H.elim
 | _ :: _, [], _, H, _ => H.elim
theorem retell {P : Program} {w0 : World} {F0 : Nat → Prop} {h : Heap} {x : Cx} (R : RelP P w0 F0 h x) {id ver : Nat} {ty : TypeId} {mt : Bool} {cs cs' : List PV} (hb : blk h id = some (.cells ver ty mt cs)) (hl : cs'.length = cs.length) (hc : ∀ us, VRL P x cs us → VRL P x cs' us) :
  RelP P w0 F0 (hput h id (.cells ver ty mt cs')) x := by
 have hb' : h.bl[id]? = some (.cells ver ty mt cs) := hb
 have look : ∀ (i : Nat) b, (hput h id (.cells ver ty mt cs')).bl[i]? = some b → (i = id ∧ b = .cells ver ty mt cs') ∨ (i ≠ id ∧ h.bl[i]? = some b) := by
  intro i b hi
  by_cases e : i = id
  ·subst e
   have := tw h i (.cells ver ty mt cs') (mr hb)
   simp only [blk] at this
   rw [this] at hi
   exact .inl ⟨rfl, (Option.some.inj hi).symm⟩
  ·have := je h id i (.cells ver ty mt cs') (fun e' => e e'.symm)
   simp only [blk] at this
   rw [this] at hi
   exact .inr ⟨e, hi⟩
 refine ⟨R.below, R.f0, R.fsub, R.fnew, R.own, R.fresh, fun i j bi bj b h1 h2 h3 h4 => ?_, fun i bi hi => ?_⟩
 ·have g1 : ∃ b', h.bl[i]? = some b' ∧ b'.ver = bi.ver := by
   rcases look i bi h1 with ⟨rfl, rfl⟩ | ⟨_, h5⟩
   ·exact ⟨_, hb', rfl⟩
   ·exact ⟨_, h5, rfl⟩
  have g2 : ∃ b', h.bl[j]? = some b' ∧ b'.ver = bj.ver := by
   rcases look j bj h2 with ⟨rfl, rfl⟩ | ⟨_, h5⟩
   ·exact ⟨_, hb', rfl⟩
   ·exact ⟨_, h5, rfl⟩
  obtain ⟨b1, e1, e2⟩ := g1
  obtain ⟨b2, e3, e4⟩ := g2
  exact R.inj i j b1 b2 b e1 e3 (by rw [e2]; exact h3) (by rw [e4]; exact h4)
 ·rcases look i bi hi with ⟨rfl, rfl⟩ | ⟨hne, h5⟩
  ·intro b hj
   obtain ⟨⟨cur, h1, h2, h3⟩, h4⟩ := R.hr i _ hb' b hj
   exact ⟨⟨cur, h1, by omega, by rw [hl]; exact hc _ h3⟩, h4⟩
  ·exact R.hr i bi h5
theorem bh7 {P : Program} {S : List Fr} {Q : Post} {E : TEnv} {h : Heap} {L : List Ent} {r : List AOper} {k j id ver n a b : Nat} {ty ty' : TypeId} {sz sz' : Nat} {es cs cs' : List PV} (M : Mem h L) (hk : L[k]? = some ⟨.os id ver 0 n, ty, sz, es⟩) (hj : L[j]? = some ⟨.op a b 0, ty', sz', [.agg cs]⟩)
  (hF : FrzL (.os id ver 0 n) (.fs false es) cs cs') (hl : cs'.length = cs.length) (K : ∀ h', Mem h' ((L.set j ⟨.op a b 0, ty', sz', [.agg cs']⟩).eraseIdx k) → RS P r S Q E h') : RS P r S Q E h := by
 have hne : k ≠ j := fun e => by subst e; rw [hk] at hj; cases hj
 obtain ⟨hc, hn, ds, h1, h2⟩ := M.atF hk
 obtain ⟨hcj, x', a3, j1, j2, j3⟩ := M.atF hj
 simp only [List.cons.injEq, and_true] at j1
 subst j1
 simp only [PV.cellsOf, Option.some.injEq] at j2
 subst j2
 have hia : id ≠ a := fun e => mj M.dis hj hne hk a rfl (by simp [idOf, e])
 have a0 : blk (hput h id (.cells ver ty false ds)) a = some (.cells b ty' true cs) := by rw [je h id a _ hia]; exact j3
 have hM : Mem (hput (hput h id (.cells ver ty false ds)) a (.cells b ty' true cs')) ((L.set j ⟨.op a b 0, ty', sz', [.agg cs']⟩).eraseIdx k) := by
  refine ⟨fun e he => ?_, (ac1 (e' := ⟨.op a b 0, ty', sz', [.agg cs']⟩) M.dis hj fun x hx ha i h1 h2 => ha i h1 h2).sublist (List.eraseIdx_sublist ..)⟩
  obtain ⟨i, hi⟩ := List.getElem?_of_mem he
  rw [List.getElem?_eraseIdx] at hi
  have hik : ∃ i, i ≠ k ∧ (L.set j ⟨.op a b 0, ty', sz', [.agg cs']⟩)[i]? = some e := by
   split at hi
   ·exact ⟨i, by omega, hi⟩
   ·exact ⟨i + 1, by omega, hi⟩
  obtain ⟨i, hik, hi⟩ := hik
  by_cases hij : i = j
  ·subst hij
   rw [List.getElem?_set_self (List.getElem?_eq_some_iff.1 hj).1] at hi
   simp only [Option.some.injEq] at hi
   subst hi
   have hcn := hcj _ (List.mem_singleton.2 rfl)
   simp only [cnt, Option.some.injEq] at hcn
   refine ⟨by simp [cnt]; omega, _, cs', rfl, rfl, tw _ _ _ ?_⟩
   exact mr a0
  ·rw [List.getElem?_set_ne (fun e => hij e.symm)] at hi
   have a1 := mj M.dis hk hik hi
   have a2 := mj M.dis hj hij hi
   refine (M.ent e (List.mem_of_getElem? hi)).frame fun q hq _ => ?_
   rw [je _ a q _ fun e' => a2 a rfl (by rw [hq, e']), je h id q _ fun e' => a1 id rfl (by rw [hq, e'])]
 intro T hT
 refine av1 (T' := T) (h' := hput (hput h id (.cells ver ty false ds)) a (.cells b ty' true cs')) ?_ (K _ hM _ hT)
 intro w0 F0 n' x act R hTm
 obtain ⟨y, ew, eJ, Ex, hFr, R'⟩ := R.freeze h2
 have hb : ∀ us, VRC P y (.os id ver 0 n) us → VRC P y (.fs false es) us := fun us hv => by
  have hone : ∃ u, us = [u] := by
   simp only [VRC] at hv
   obtain ⟨b, cap, _, e, _⟩ := hv
   exact ⟨_, e⟩
  obtain ⟨u, rfl⟩ := hone
  exact VR_frozen (u := u) R' (tw h id _ (mr h2)) (fun b hj => hFr b (by rw [← eJ]; exact hj)) hn h1 hc hv
 exact ⟨y, ew, Ex, retell R' a0 hl (fun us hv => FrzL.conv hb hF us hv), hTm.ext Ex⟩
theorem be8 {P : Program} {S : List Fr} {Q : Post} {E : TEnv} {h : Heap} {L : List Ent} {r : List AOper} {k j a b : Nat} {v : PV} {ty ty' : TypeId} {sz sz' : Nat} {es : List PV} {cs : PV → List PV} (M : Mem h L) (hk : L[k]? = some ⟨v, ty, sz, es⟩) (hj : L[j]? = some ⟨.op a b 0, ty', sz', [.agg (cs v)]⟩)
  (hne : isL v = true) (hF : ∀ d, FrzL v d (cs v) (cs d)) (hl : ∀ d, (cs d).length = (cs v).length) (K : ∀ d h', IsSl d es → Mem h' ((L.set j ⟨.op a b 0, ty', sz', [.agg (cs d)]⟩).eraseIdx k) → RS P r S Q E h') : RS P r S Q E h := by
 have hv := (M.atF hk).2
 have hsame : L.set j ⟨.op a b 0, ty', sz', [.agg (cs v)]⟩ = L := by
  obtain ⟨hlt, e⟩ := List.getElem?_eq_some_iff.1 hj
  rw [← e]; exact List.set_getElem_self hlt
 have same : IsSl v es → RS P r S Q E h := fun hs => K v h hs (by rw [hsame]; exact M.sub (List.eraseIdx_sublist ..))
 cases v with
 | os id ver off n =>
  cases off with
  | zero => exact bh7 M hk hj (hF _) (hl _) fun h' M' => K _ h' (.inr ⟨false, rfl⟩) M'
  | succ off => exact hv.elim
 | fs t es' =>
  cases t with
  | true => have e : es' = es := hv; exact same (.inr ⟨true, by rw [e]⟩)
  | false => exact hv.elim
 | sc u =>
  unfold EntV at hv
  split at hv <;> first | exact hv.elim | skip
  all_goals first | (rename_i heq; cases heq; exact same (.inl ⟨_, rfl, hv⟩)) | (rename_i heq; cases heq)
 | _ => first | exact hv.elim | (simp [isL] at hne)
def ixC (pc : List PV) (t kd : Int) (wv rv : PV) (lp : Int) (m1 m2 : PV) : List PV := pc ++ [vi t, vi kd, wv, rv, vi lp, m1, m2]
theorem cx0 (w : Int) (p : PV) : cnt (triP w p) = some 1 := rfl
theorem bf9 {S : List Fr} {Q : Post} {ixi ixv m1 u1 m2 u2 : Nat} {a0 a1 a2 a3 a4 a5 a6 a7 a8 wv rv : PV} {t kd lp : Int} {W : List Int} {l : List ak} {R : List Ent} {res : IxS} (rw_ : (tSl tI).R W wv) (rr : (tSl ak.t).R l rv) (HB : RowB W lp l)
  (K : ∀ {h : Heap} {ps : List (Ex × PV)} {N : List Ent}, TsM (ix W lp) res.2 ps N → MapB res.1 → MapB res.2 → Mem h (⟨.op ixi ixv 0, 69, 16, [.agg (ixC [a0, a1, a2, a3, a4, a5, a6, a7, a8] t kd wv rv lp (.om m1 u1) (.om m2 u2))]⟩ :: ⟨.om m1 u1, 66, 2, exE (mpV res.1)⟩ :: ⟨.om m2 u2, 67, 2, exE ps⟩ :: (N ++ R)) → PX Tryz.prog 0 S Q [] h) :
  ∀ (m : Nat) {i : Int} {st : IxS} {h : Heap} {ps : List (Ex × PV)} {N : List Ent}, m = Int.toNat ((l.length : Int) - i) → 0 ≤ i → i ≤ l.length → MapB st.1 → MapB st.2 → TsM (ix W lp) st.2 ps N → bL (ix W lp) lp l m i st = res →
   Mem h (⟨.op ixi ixv 0, 69, 16, [.agg (ixC [a0, a1, a2, a3, a4, a5, a6, a7, a8] t kd wv rv lp (.om m1 u1) (.om m2 u2))]⟩ :: ⟨.om m1 u1, 66, 2, exE (mpV st.1)⟩ :: ⟨.om m2 u2, 67, 2, exE ps⟩ :: (N ++ R)) →
   RC Tryz.prog (.loop bm9) S Q [(37, vi i), (36, vi (l.length : Int)), (35, rv), (0, .op ixi ixv 0)] h
 | 0, i, st, h, ps, N, hm, h0, h1, hB1, hB2, HT, hp, M => by
  refine bt ?_
  refine ah (af (ab (ba rfl rfl cy) (aw (ai (ah (bc rfl (fun hc => ?_) fun hc => ?_))))))
  ·simp only [decide_eq_true_eq] at hc; omega
  ·have hp : st = res := hp
   subst hp
   exact dm (fb (df (wP (K HT hB1 hB2 M) rfl)))
 | m + 1, i, st, h, ps, N, hm, h0, h1, hB1, hB2, HT, hp, M => by
  have hlt : i < (l.length : Int) := by omega
  have hn := HB.n
  have hinc : wr (i + 1) = i + 1 := du (by omega) (by omega)
  have b0 := HB.k i h0 hlt
  refine bt ?_
  refine ah (af (ab (ba rfl rfl cy) (aw (ai (ah (bc rfl (fun hc => ?_) fun hc => ?_))))))
  ·obtain ⟨g, e0, q0⟩ := dl (i := i) rr h0 hlt
   obtain ⟨we, ge, re⟩ := ak.g_Entry q0
   obtain ⟨c1, c2, rfl, qk, qa⟩ := q0
   refine ay (ai (ah (bd (ah (af (mV rfl (ab (bq rfl rfl e0) (ab (br rfl rfl rfl) ?_))))))))
   refine dh (x := .agg [vi 0, nilS, vi 0, vi 0, nilS]) M rfl rfl (fun i3 w3 h3 M3 => mV rfl ?_)
   refine db (k := 0) (v := .agg [vi (ix l i).ID, c1, vi (ix l i).Entry.Priority, vi (ix l i).Entry.Call.Action, c2]) M3 rfl rfl rfl rfl (fun h4 M4 => aw (ai ?_))
   obtain ⟨kv, c6, rk⟩ := dw1 re b0
   have hvl : (ph (ix l i).Entry).length ≤ 1000000 := by rw [bt1, List.length_map]; omega
   have he : ExB (bE lp (ix l i)) := pk_B _ _
   refine ah (af (ab (bf rfl) (ab (cp (k := 0) (off := 1) M4 rfl rfl ge) ?_)))
   refine cL c6 rfl rfl (aq (TR.clo _ re) bg) (mV rfl (ab (dp rfl rfl) (ab (bf rfl) (ab (cp (k := 1) (off := 13) (w := vi lp) M4 rfl rfl rfl) ?_))))
   refine cL (dw8 rk hvl) rfl rfl (aq (TR.clo _ rk) (aq rfl bg)) ?_
   refine dh (x := exV exz) M4 rfl rfl (fun i5 w5 h5 M5 => ?_)
   refine db (k := 0) (v := exV (bE lp (ix l i))) M5 rfl rfl rfl (by6 he) (fun h6 M6 => aw (ai ?_))
   replace M6 : Mem h6 (⟨.op i5 w5 0, 90, 7, [exV (bE lp (ix l i))]⟩ :: ⟨.op i3 w3 0, 44, 5, [.agg [vi (ix l i).ID, c1, vi (ix l i).Entry.Priority, vi (ix l i).Entry.Call.Action, c2]]⟩ :: ⟨.op ixi ixv 0, 69, 16, [.agg (ixC [a0, a1, a2, a3, a4, a5, a6, a7, a8] t kd wv rv lp (.om m1 u1) (.om m2 u2))]⟩ :: ⟨.om m1 u1, 66, 2, exE (mpV st.1)⟩ :: ⟨.om m2 u2, 67, 2, exE ps⟩ :: (N ++ R)) := M6
   refine ah (ah (af (mV rfl (ab (dp rfl rfl) (ab (bf rfl) (ab (cp (k := 2) (off := 13) (w := vi lp) M6 rfl rfl rfl) (ab (ba rfl rfl cy) (aw (ai (bc rfl (fun hc => ?_) fun hc => ?_))))))))))
   ·simp only [decide_eq_true_eq] at hc
    have hs : bS (ix W lp) lp (ix l i) i st = (wput st.1 (bE lp (ix l i)) i, st.2) := by unfold bS; rw [if_pos hc]
    rw [bL, hs] at hp
    refine ah (af (mV rfl (ab (dp rfl rfl) (ab (bf rfl) (ab (cp (k := 2) (off := 14) (w := .om m1 u1) M6 rfl rfl rfl) (ab (fw (k := 0) M6 rfl rfl rfl) (mV rfl ?_)))))))
    refine bm6 (k := 3) (v := vi i) M6 rfl rfl rfl rfl (ek4 hB1) he rfl (fun h7 M7 => aw (ai ?_))
    rw [← bn0] at M7
    refine dm (fb (fe (ai (af (ab (ba rfl rfl ep) (mV rfl (aw (cx ?_))))))))
    refine li ?_ (bf9 rw_ rr HB K m (i := i + 1) (st := (wput st.1 (bE lp (ix l i)) i, st.2)) (ps := ps) (N := N) (by omega) (by omega) (by omega) (hB1.put he i) hB2 HT hp (Mem.sub M7 (.cons _ (.cons _ (List.Sublist.refl _)))))
    exact ko (by show some (vi (wr (i + 1))) = _; rw [hinc]) (sB rfl)
   ·simp only [decide_eq_false_iff_not] at hc
    have hlp : 0 ≤ lp := by omega
    have hs : bS (ix W lp) lp (ix l i) i st = (st.1, wput st.2 (bE lp (ix l i)) (bT (ix W lp) lp (ix l i) i ((wget st.2 (bE lp (ix l i))).getD t0))) := by unfold bS; rw [if_neg (by omega)]
    obtain ⟨b2, b3, b8⟩ := HB.w hlp (by omega)
    obtain ⟨c4, b4⟩ := HB.lk i h0 hlt hlp
    rw [bL, hs] at hp
    refine ay (ai (ah (af (mV rfl (ab (dp rfl rfl) (ab (bf rfl) (ab (cp (k := 2) (off := 11) (w := wv) M6 rfl rfl (mk1 (TR.agg _ rw_))) (mV rfl (ab (dp rfl rfl) (ab (bf rfl) (ab (cp (k := 2) (off := 13) (w := vi lp) M6 rfl rfl rfl) ?_)))))))))))
    refine ab (bq rfl rfl (slI rw_ hlp b2)) (ab (br rfl rfl rfl) (mV rfl (aw (ai ?_))))
    refine ah ?_
    refine vv (F := fun b S Q => ∀ {h : Heap} {ps : List (Ex × PV)} {N : List Ent} {ts : List (Ex × Tr)} {tr : Tr}, TsM (ix W lp) ts ps N → MapB ts → wget ts (bE lp (ix l i)) = some tr → bL (ix W lp) lp l m (i + 1) (st.1, wput ts (bE lp (ix l i)) (bT (ix W lp) lp (ix l i) i tr)) = res → Mem h (⟨.op i5 w5 0, 90, 7, [exV (bE lp (ix l i))]⟩ :: ⟨.op i3 w3 0, 44, 5, [.agg [vi (ix l i).ID, c1, vi (ix l i).Entry.Priority, vi (ix l i).Entry.Call.Action, c2]]⟩ :: ⟨.op ixi ixv 0, 69, 16, [.agg (ixC [a0, a1, a2, a3, a4, a5, a6, a7, a8] t kd wv rv lp (.om m1 u1) (.om m2 u2))]⟩ :: ⟨.om m1 u1, 66, 2, exE (mpV st.1)⟩ :: ⟨.om m2 u2, 67, 2, exE ps⟩ :: (N ++ R)) → RC Tryz.prog b S Q [(37, vi i), (36, vi (l.length : Int)), (35, rv), (5, vi (ix W lp)), (4, .op i5 w5 0), (3, .op i3 w3 0), (2, vi i), (0, .op ixi ixv 0)] h) ?_ ?_
    ·clear hp HT M M3 M4 M5 M6
     intro h ps N ts tr HT hBt hg hp M6
     obtain ⟨km, ek, qm⟩ := dl (i := lp) qk hlp c4
     refine ah (af (ab (bf rfl) (ab (bf rfl) (ab (cp (k := 1) (off := 1) (w := c1) M6 rfl rfl (mk1 (TR.agg _ qk))) (mV rfl (ab (dp rfl rfl) (ab (bf rfl) (ab (cp (k := 2) (off := 13) (w := vi lp) M6 rfl rfl rfl) ?_))))))))
     refine ab (bq rfl rfl ek) (ab (br rfl (TR.cnt _ qm) (TR.agg _ qm)) ?_)
     refine dh (x := .agg [dx 0#32, dx 0#32]) M6 rfl rfl (fun i8 w8 h8 M8 => ?_)
     refine db (k := 0) (v := km) M8 rfl rfl rfl (TR.cnt _ qm) (fun h9 M9 => aw (ai ?_))
     refine ah (al1 (k := 0) (E' := [(37, vi i), (36, vi (l.length : Int)), (35, rv), (8, .fp km), (5, vi (ix W lp)), (4, .op i5 w5 0), (2, vi i), (0, .op ixi ixv 0)]) M9 rfl (dg rfl (dg rfl (dg rfl (rm rfl (dg rfl (dg rfl (dg rfl (dg rfl vd)))))))) (fun b1 a9 => ?_))
     replace a9 : Mem b1 (⟨.op i5 w5 0, 90, 7, [exV (bE lp (ix l i))]⟩ :: ⟨.op i3 w3 0, 44, 5, [.agg [vi (ix l i).ID, c1, vi (ix l i).Entry.Priority, vi (ix l i).Entry.Call.Action, c2]]⟩ :: ⟨.op ixi ixv 0, 69, 16, [.agg (ixC [a0, a1, a2, a3, a4, a5, a6, a7, a8] t kd wv rv lp (.om m1 u1) (.om m2 u2))]⟩ :: ⟨.om m1 u1, 66, 2, exE (mpV st.1)⟩ :: ⟨.om m2 u2, 67, 2, exE ps⟩ :: (N ++ R)) := a9
     refine ab (bz rfl (bb.g_Mask qm)) (ab (br rfl rfl rfl) (mV rfl ?_))
     refine cL co0 rfl rfl (aq rfl (aq rfl bg)) (mV rfl (ab (ft rfl rfl) (ab (ft rfl rfl) (mV rfl (mV rfl (aw (ai ?_)))))))
     obtain ⟨pr, Nt, Nr, g1, g2, g3, g4, g5⟩ := HT.found hg
     cases tr with
     | nil => exact absurd rfl g2
     | node tl tr_ ts_ tv =>
     refine ah (af (mV rfl (aw (ai (bc rfl (fun hd => ?_) fun hd => ?_)))))
     ·refine an7 ?_
      have hBp := bm4 HT.B hBt
      refine jb (mV rfl (iz (jb (ab (dp rfl rfl) (iz (jb (ab (bf rfl) (iz ?_))))))))
      refine jb (ab (cp (k := 2) (off := 15) (w := .om m2 u2) a9 rfl rfl rfl) (iz (jb (ab (fw (k := 0) a9 rfl rfl rfl) (iz ?_)))))
      refine jb (bd4 (k := 4) a9 rfl rfl rfl hBp he (iz ?_))
      rw [g1]
      refine jb (ab (bz rfl (bb.g_Value qm)) (iz (jb (ab (br rfl rfl rfl) (iz (jb (mV rfl (iz (jb (mV rfl (iz ?_)))))))))))
      have c0 : Mem b1 (Nt ++ (⟨.op i5 w5 0, 90, 7, [exV (bE lp (ix l i))]⟩ :: ⟨.op i3 w3 0, 44, 5, [.agg [vi (ix l i).ID, c1, vi (ix l i).Entry.Priority, vi (ix l i).Entry.Call.Action, c2]]⟩ :: ⟨.op ixi ixv 0, 69, 16, [.agg (ixC [a0, a1, a2, a3, a4, a5, a6, a7, a8] t kd wv rv lp (.om m1 u1) (.om m2 u2))]⟩ :: ⟨.om m1 u1, 66, 2, exE (mpV st.1)⟩ :: ⟨.om m2 u2, 67, 2, exE ps⟩ :: (Nr ++ R))) := a9.perm (by
       refine .trans (.cons _ (.cons _ (.cons _ (.cons _ (.cons _ (g4.append_right R)))))) ?_
       classical exact List.perm_iff_count.2 fun a => by simp only [List.count_append, List.count_cons, List.cons_append]; omega)
      obtain ⟨c8, b5, c5, L', k1, b6⟩ := do4 (x := (ix (ix l i).Entry.Keys lp).Value) (n := (ej (ix (ix l i).Entry.Keys lp).Mask (ix W lp)).1) (i := i) g3 c0 b8
      refine bv2 (cap := []) rfl rfl c5 (cp0 ?_)
      obtain ⟨N', k2, k3⟩ := g5 (bT (ix W lp) lp (ix l i) i (.node tl tr_ ts_ tv)) L' (da9 (by simp)) k1
      have b7 : Mem b5 (⟨.op ixi ixv 0, 69, 16, [.agg (ixC [a0, a1, a2, a3, a4, a5, a6, a7, a8] t kd wv rv lp (.om m1 u1) (.om m2 u2))]⟩ :: ⟨.om m1 u1, 66, 2, exE (mpV st.1)⟩ :: ⟨.om m2 u2, 67, 2, exE ps⟩ :: (N' ++ R)) := by
       have b9 := b6.perm (L' := ⟨.op i5 w5 0, 90, 7, [exV (bE lp (ix l i))]⟩ :: ⟨.op i3 w3 0, 44, 5, [.agg [vi (ix l i).ID, c1, vi (ix l i).Entry.Priority, vi (ix l i).Entry.Call.Action, c2]]⟩ :: ⟨.op ixi ixv 0, 69, 16, [.agg (ixC [a0, a1, a2, a3, a4, a5, a6, a7, a8] t kd wv rv lp (.om m1 u1) (.om m2 u2))]⟩ :: ⟨.om m1 u1, 66, 2, exE (mpV st.1)⟩ :: ⟨.om m2 u2, 67, 2, exE ps⟩ :: (N' ++ R)) (by
        refine .trans ?_ (.cons _ (.cons _ (.cons _ (.cons _ (.cons _ (k3.append_right R))))))
        classical exact List.perm_iff_count.2 fun a => by simp only [List.count_append, List.count_cons, List.cons_append]; omega)
       exact Mem.sub b9 (.cons _ (.cons _ (List.Sublist.refl _)))
      refine dj (ai (af (ab (ba rfl rfl ep) (mV rfl (aw (cx ?_))))))
      refine li ?_ (bf9 rw_ rr HB K m (i := i + 1) (st := (st.1, wput ts (bE lp (ix l i)) (bT (ix W lp) lp (ix l i) i (.node tl tr_ ts_ tv)))) (ps := ps) (N := N') (by omega) (by omega) (by omega) hB1 (hBt.put he _) k2 hp b7)
      exact ko (by show some (vi (wr (i + 1))) = _; rw [hinc]) (sB rfl)
     ·rw [b4] at hd; cases hd
    ·intro J
     have hBp := bm4 HT.B hB2
     refine ah (af (mV rfl (ab (dp rfl rfl) (ab (bf rfl) (ab (cp (k := 2) (off := 15) (w := .om m2 u2) M6 rfl rfl rfl) (ab (fw (k := 0) M6 rfl rfl rfl) ?_))))))
     refine bd4 (k := 4) M6 rfl rfl rfl hBp he ?_
     cases hg : wget st.2 (bE lp (ix l i)) with
     | none =>
      rw [HT.absent hg]
      refine ab (v := vb true) (ba rfl rfl rfl) (aw (ai (bc rfl (fun hd => ?_) fun hd => by cases hd)))
      obtain ⟨c7, h7, c3, pr, Lt, rfl, k1, M7⟩ := dx9 b3 M6
      refine ah (nm (de (mV rfl (dc (ac9 rfl rfl c3 (de (mV rfl (dc (de (ab (ft rfl rfl) (dc (de (ab (ft rfl rfl) (dc (de (mV rfl (dc (de (mV rfl (dc (uy (ai ?_))))))))))))))))))))))
      refine ah (af (mV rfl (ab (ba rfl rfl oe) (aw (ai (bc rfl (fun hd => ?_) fun hd => by simp at hd))))))
      have M8 := M7.perm (L' := ⟨.op i5 w5 0, 90, 7, [exV (bE lp (ix l i))]⟩ :: ⟨.op i3 w3 0, 44, 5, [.agg [vi (ix l i).ID, c1, vi (ix l i).Entry.Priority, vi (ix l i).Entry.Call.Action, c2]]⟩ :: ⟨.op ixi ixv 0, 69, 16, [.agg (ixC [a0, a1, a2, a3, a4, a5, a6, a7, a8] t kd wv rv lp (.om m1 u1) (.om m2 u2))]⟩ :: ⟨.om m1 u1, 66, 2, exE (mpV st.1)⟩ :: ⟨.om m2 u2, 67, 2, exE ps⟩ :: (Lt ++ (N ++ R))) (by
       classical exact List.perm_iff_count.2 fun a => by simp only [List.count_append, List.count_cons, List.cons_append]; omega)
      refine af (mV rfl (ab (dp rfl rfl) (ab (bf rfl) (ab (cp (k := 2) (off := 15) (w := .om m2 u2) M8 rfl rfl rfl) (ab (fw (k := 0) M8 rfl rfl rfl) (mV rfl ?_))))))
      refine bm6 (k := 4) (v := triP (ix W lp) pr) M8 rfl rfl rfl rfl hBp he (cx0 _ _) (fun h9 M9 => aw (ai ?_))
      obtain ⟨N', k2, k3⟩ := HT.new (t := t0) (by simp [t0]) k1 hg
      refine wC (J (ps := wput ps (bE lp (ix l i)) (triP (ix W lp) pr)) (N := N') (ts := wput st.2 (bE lp (ix l i)) t0) (tr := t0) k2 (hB2.put he _) (by rw [am5, if_pos rfl]) (by rw [ay1]; rw [hg] at hp; exact hp) (M9.perm ?_)) rfl
      ·refine .trans ?_ (.cons _ (.cons _ (.cons _ (.cons _ (.cons _ (k3.append_right R))))))
       show List.Perm (_ :: _ :: _ :: _ :: _ :: (Lt ++ (N ++ R))) _
       rw [List.append_assoc]
     | some tr =>
      obtain ⟨pr, Nt, Nr, g1, g2, g3, g4, g5⟩ := HT.found hg
      rw [g1]
      refine ab (v := vb false) (ba rfl rfl rfl) (aw (ai (bc rfl (fun hd => by cases hd) fun hd => ?_)))
      refine ay (ai ?_)
      exact wC (J (ps := ps) (N := N) (ts := st.2) (tr := tr) HT hB2 hg (by rw [hg] at hp; exact hp) M6) rfl
  ·simp only [decide_eq_false_iff_not] at hc; omega
theorem TsM.nil_ (w : Int) : TsM w [] [] [] := rfl
theorem dm7 {ixi ixv m1 u1 m2 u2 : Nat} {a0 a1 a2 a3 a4 a5 a6 a7 a8 wv rv : PV} {t kd : Int} {W : List Int} {l : List ak} {R : List Ent} {h : Heap} {q : aa} (rq : aa.t.R q (.agg [a0, a1, a2, a3, a4, a5, a6, a7, a8])) (a9 : 0 ≤ t) (b1 : t < q.Tables.length) (rw_ : (tSl tI).R W wv) (rr : (tSl ak.t).R l rv)
  (HB : kd ≠ 3 → RowB W (lpX (ix q.Tables t).Keys) l) (M : Mem h (⟨.op ixi ixv 0, 69, 16, [.agg (ixC [a0, a1, a2, a3, a4, a5, a6, a7, a8] t kd wv rv (-1) (.om m1 u1) (.om m2 u2))]⟩ :: ⟨.om m1 u1, 66, 2, []⟩ :: ⟨.om m2 u2, 67, 2, []⟩ :: R)) :
  ∃ r h', FnX Tryz.prog 46 [.op ixi ixv 0] h r h' ∧ r = .tup [] ∧ ∃ ps N, TsM (ix W (if kd = 3 then -1 else lpX (ix q.Tables t).Keys)) (bR kd W (lpX (ix q.Tables t).Keys) l).2 ps N ∧ MapB (bR kd W (lpX (ix q.Tables t).Keys) l).1 ∧ MapB (bR kd W (lpX (ix q.Tables t).Keys) l).2 ∧
   Mem h' (⟨.op ixi ixv 0, 69, 16, [.agg (ixC [a0, a1, a2, a3, a4, a5, a6, a7, a8] t kd wv rv (if kd = 3 then -1 else lpX (ix q.Tables t).Keys) (.om m1 u1) (.om m2 u2))]⟩ :: ⟨.om m1 u1, 66, 2, exE (mpV (bR kd W (lpX (ix q.Tables t).Keys) l).1)⟩ :: ⟨.om m2 u2, 67, 2, exE ps⟩ :: (N ++ R)) := by
 refine fnX cf0 (by simp) ?_
 refine ah (ah (af (mV rfl (ab (dp rfl rfl) (ab (bf rfl) (ab (cp (k := 0) (off := 10) (w := vi kd) M rfl rfl rfl) (ab (ba rfl rfl oe) (aw (ai (bc rfl (fun hc => ?_) fun hc => ?_))))))))))
 ·simp only [decide_eq_true_eq] at hc
  refine ub .nil ⟨rfl, [], [], ?_⟩
  unfold bR
  rw [if_pos hc, if_pos hc]
  exact ⟨rfl, MapB.nil, MapB.nil, M⟩
 ·simp only [decide_eq_false_iff_not] at hc
  obtain ⟨wt, gt, rt⟩ := aa.g_Tables rq
  obtain ⟨e0, b0, q0⟩ := dl (i := t) rt a9 b1
  obtain ⟨wk, gk, rk⟩ := az.g_Keys q0
  unfold bR
  rw [if_neg hc, if_neg hc]
  refine ay (ai (ah (an7 ?_)))
  refine jb (mV rfl (iz (jb (mV rfl (iz (jb (ab (dp rfl rfl) (iz (jb (ab (bf rfl) (iz (jb (ab (bf rfl) (iz ?_))))))))))))))
  refine jb (ab (cp (k := 0) (off := 5) (w := wt) M rfl rfl gt) (iz ?_))
  refine jb (mV rfl (iz (jb (ab (dp rfl rfl) (iz (jb (ab (bf rfl) (iz ?_))))))))
  refine jb (ab (cp (k := 0) (off := 9) (w := vi t) M rfl rfl rfl) (iz ?_))
  refine jb (ab (bq rfl rfl b0) (iz (jb (ab (bz rfl gk) (iz (jb (ab (br rfl (TR.cnt _ rk) (TR.agg _ rk)) (iz ?_))))))))
  refine jb (cL (dx3 rk en4) rfl rfl (aq (TR.clo _ rk) (aq rfl bg)) (iz ?_))
  refine jb (ab (dp rfl rfl) (iz (jb (ab (bf rfl) (iz ?_)))))
  refine jb (jx (off := 13) (k := 0) (v := vi (lpX (ix q.Tables t).Keys)) M rfl rfl rfl rfl rfl (by simp [ixC]) (fun h2 M2 => iz (cp0 (ai ?_))))
  replace M2 : Mem h2 (⟨.op ixi ixv 0, 69, 16, [.agg (ixC [a0, a1, a2, a3, a4, a5, a6, a7, a8] t kd wv rv (lpX (ix q.Tables t).Keys) (.om m1 u1) (.om m2 u2))]⟩ :: ⟨.om m1 u1, 66, 2, []⟩ :: ⟨.om m2 u2, 67, 2, []⟩ :: R) := M2
  refine ah (af (mV rfl (ab (dp rfl rfl) (ab (bf rfl) (ab (cp (k := 0) (off := 12) (w := rv) M2 rfl rfl (mk1 (TR.agg _ rr))) (ab (cw rfl (cf rr Tryz.underlying32 _)) (ab (v := vi 0) (au rfl) (aw (ai (bd ?_))))))))))
  refine wC (bf9 rw_ rr (HB hc) (t := t) (kd := kd) (R := R) ?_ l.length (i := 0) (st := ([], [])) (ps := []) (N := []) (by omega) (by omega) (by omega) MapB.nil MapB.nil (TsM.nil_ _) rfl M2) rfl
  ·intro h3 ps N k1 k2 k3 M3
   exact fe (dc4 .nil ⟨rfl, ps, N, k1, k2, k3, M3⟩)
theorem by3 {S : List Fr} {p : aa} {t : Int} {l : List ak} {v0 v2 : PV} {R : List Ent} {mi mv : Nat} {res : Int} {Φ : PV → Heap → Prop} (r0 : aa.t.R p v0) (r2 : (tSl ak.t).R l v2)
  (Kb : ∀ {h : Heap}, res ≠ 0 → Mem h R → Φ (.tup [nilP, vi res]) h)
  (K : ∀ {h : Heap}, res = 0 → Mem h R → PX Tryz.prog 0 S (retPost Tryz.prog [(6, none), (7, none)] Φ) [(3, .fp v0), (2, v2), (1, vi t)] h) :
  ∀ (m : Nat) {i : Int} {z : List (Int × Bool)} {es : List PV} {h : Heap}, m = Int.toNat ((l.length : Int) - i) → 0 ≤ i → i ≤ l.length → All2 (tKV tB).R z es → newL p t l m i z = res → Mem h (⟨.om mi mv, 82, 2, es⟩ :: R) →
   RC Tryz.prog (.loop da4) S (retPost Tryz.prog [(6, none), (7, none)] Φ) [(31, vi i), (30, vi (l.length : Int)), (29, v2), (10, .om mi mv), (3, .fp v0), (2, v2), (1, vi t)] h
 | 0, i, z, es, h, hm, h0, h1, hz, hp, M => by
  refine bt ?_
  refine ah (af (ab (ba rfl rfl cy) (aw (ai (ah (bc rfl (fun hc => ?_) fun hc => ?_))))))
  ·simp only [decide_eq_true_eq] at hc; omega
  ·have hp : (0 : Int) = res := hp
   exact dm (fb (df (wP (K hp.symm (Mem.sub M (.cons _ (List.Sublist.refl _)))) rfl)))
 | m + 1, i, z, es, h, hm, h0, h1, hz, hp, M => by
  have hlt : i < (l.length : Int) := by omega
  have hb := dv r2
  have hinc : wr (i + 1) = i + 1 := du (by omega) (by omega)
  refine bt ?_
  refine ah (af (ab (ba rfl rfl cy) (aw (ai (ah (bc rfl (fun hc => ?_) fun hc => ?_))))))
  ·obtain ⟨g, e0, q0⟩ := dl (i := i) r2 h0 hlt
   obtain ⟨we, ge, re⟩ := ak.g_Entry q0
   refine ay (ai (ah (bd (ah (af (mV rfl (ab (bq rfl rfl e0) (ab (br rfl (TR.cnt _ q0) (TR.agg _ q0)) ?_))))))))
   refine dh (x := .agg [vi 0, nilS, vi 0, vi 0, nilS]) M rfl rfl (fun i3 w3 h3 M3 => mV rfl ?_)
   refine db (k := 0) (v := g) M3 rfl rfl rfl (TR.cnt _ q0) (fun h4 M4 => aw (ai ?_))
   refine ah (ah (al1 (k := 0) (E' := [(31, vi i), (30, vi (l.length : Int)), (29, v2), (12, .fp g), (11, vi i), (10, .om mi mv), (3, .fp v0), (2, v2), (1, vi t)]) M4 rfl (dg rfl (dg rfl (dg rfl (rm rfl (dg rfl (dg rfl (dg rfl (dg rfl (dg rfl vd))))))))) (fun h5 M5 => ?_)))
   replace M5 : Mem h5 (⟨.om mi mv, 82, 2, es⟩ :: R) := M5
   refine ab (br rfl (TR.cnt _ r0) (TR.agg _ r0)) (mV rfl (ab (bz rfl ge) (ab (br rfl (TR.cnt _ re) (TR.agg _ re)) ?_)))
   refine cL (dl3 r0 re) rfl rfl (aq (TR.clo _ r0) (aq rfl (aq (TR.clo _ re) bg))) (mV rfl (aw (ai ?_)))
   rw [newL] at hp
   refine ah (af (mV rfl (ab (ba rfl rfl ma) (aw (ai (bc rfl (fun hc => ?_) fun hc => ?_))))))
   ·replace hc : (!decide (na p t (ix l i).Entry = 0)) = true := hc
    rw [if_pos hc] at hp
    have a0 : na p t (ix l i).Entry ≠ 0 := by simpa using hc
    refine ah (af (mV rfl (ab (v := nilP) (au rfl) (mV rfl (aw (ai ?_))))))
    refine ub (.tmp rfl (.tmp rfl .nil)) ?_
    show Φ (.tup [nilP, vi _]) h5
    rw [hp]
    exact Kb (by rw [← hp]; exact a0) (Mem.sub M5 (.cons _ (List.Sublist.refl _)))
   ·replace hc : (!decide (na p t (ix l i).Entry = 0)) = false := hc
    rw [if_neg (by rw [hc]; simp)] at hp
    have hsl : ∃ tg fs, v2 = .fs tg fs ∧ All2 ak.t.R l fs := by
     obtain ⟨⟨fs, hv, hl⟩, _⟩ := r2
     rcases hv with ⟨ad, rfl, rfl⟩ | ⟨tg, rfl⟩
     ·cases l with
      | nil => simp at hlt; omega
      | cons _ _ => simp [All2] at hl
     ·exact ⟨tg, fs, rfl, hl⟩
    obtain ⟨tg, fs, rfl, hfs⟩ := hsl
    have hsub : (tSl ak.t).R (l.take i.toNat) (.fs (tg && (i.toNat == fs.length)) ((fs.drop 0).take (i.toNat - 0))) := by
     rw [List.drop_zero, Nat.sub_zero]
     exact tp (All2.take _ hfs) (by rw [List.length_take]; omega)
    obtain ⟨d, a2, a1⟩ := bi9 hsub (es2 q0)
    have hfl := hfs.length
    refine ay (ai (ah (ah (af (mV rfl (mV rfl (ab (bw1 (l := 0) (u := i.toNat) rfl (vl := none) (vu := some (vi i)) rfl rfl rfl (by show (if 0 ≤ i then some i.toNat else none) = _; rw [if_pos h0]) (by omega) (by omega) (List.all_eq_true.2 fun x hx => by rw [hfs.cnt x hx]; rfl)) ?_)))))))
    refine ab (v := .fn (.func 41) [] [.fp g]) (za rfl rfl) ?_
    refine cL a2 rfl rfl (aq (TR.clo _ hsub) (aq (by simp [closedL, closed, TR.clo _ q0]) bg)) (mV rfl (ab (ft rfl rfl) (ab (ft rfl rfl) ?_)))
    refine dh (x := .agg [vi 0, nilS, vi 0, vi 0, nilS]) M5 rfl rfl (fun i6 w6 h6 M6 => ?_)
    refine db (k := 0) (v := d) M6 rfl rfl rfl (TR.cnt _ a1) (fun h7 M7 => mV rfl (aw (ai ?_)))
    replace M7 : Mem h7 (⟨.op i6 w6 0, 44, 5, [d]⟩ :: ⟨.om mi mv, 82, 2, es⟩ :: R) := M7
    have gid : fieldR 0 1 false g = some (vi (ix l i).ID) := by obtain ⟨_, _, rfl, _⟩ := q0; rfl
    refine ah (af (mV rfl (mV rfl ?_)))
    refine cn 5 (d := 58) (v := vb ((da (l.take i.toNat) fun x => jp x.Entry (ix l i).Entry).2 || (mget z (ix l i).ID).getD false)) ?_ ?_
    ·intro S Q r
     cases (da (l.take i.toNat) fun x => jp x.Entry (ix l i).Entry).2
     ·intro k
      refine am rfl rfl (au rfl) (am rfl rfl (bz rfl gid) (am rfl rfl (br rfl rfl rfl) ?_))
      obtain ⟨v, k1, k2⟩ := bc8 (t := tB) (zero := false) (z := .bool false) (ix l i).ID false M7 (k := 1) rfl hz rfl
      have k2 : v = vb ((mget z (ix l i).ID).getD false) := k2
      subst k2
      refine cw4 rfl rfl ⟨rfl, fun T hT => by show lookM h7 (.bool false) false (ev T (.tmp 54)) (ev T (.tmp 56)) = _; rw [dy hT rfl, dy hT rfl, k1]⟩ ?_
      exact gK rfl rfl rfl rfl rfl k
     ·exact gN 4 rfl rfl rfl rfl rfl rfl
    refine aw (ai (bc rfl (fun hd => ?_) fun hd => ?_))
    ·rw [if_pos hd] at hp
     refine ah (af (ab (v := nilP) (au rfl) (ab (v := vi 7) (au rfl) (aw (ai ?_)))))
     refine ub (.tmp rfl (.tmp rfl .nil)) ?_
     show Φ (.tup [nilP, vi 7]) h7
     rw [hp]
     exact Kb (by omega) (Mem.sub M7 (.cons _ (.cons _ (List.Sublist.refl _))))
    ·rw [if_neg (by rw [hd]; simp)] at hp
     refine ay (ai (af (mV rfl (ab (bz rfl gid) (ab (br rfl rfl rfl) ?_)))))
     refine bq2 (t := tB) (k := 1) (b := true) M7 rfl rfl rfl rfl hz rfl (fun h8 es' M8 hz' => aw (dj (ai ?_)))
     refine af (ab (ba rfl rfl ep) (mV rfl (aw (cx ?_))))
     refine li ?_ (by3 r0 r2 Kb K m (i := i + 1) (by omega) (by omega) (by omega) hz' hp (Mem.sub M8 (.cons _ (List.Sublist.refl _))))
     exact ko (by show some (vi (wr (i + 1))) = _; rw [hinc]) (sB rfl)
  ·simp only [decide_eq_false_iff_not] at hc; omega
theorem cy0 {v d a0 a1 a2 a3 a4 a5 a6 a7 a8 wv m1 m2 : PV} {t kd lp : Int} : FrzL v d (ixC [a0, a1, a2, a3, a4, a5, a6, a7, a8] t kd wv v lp m1 m2) (ixC [a0, a1, a2, a3, a4, a5, a6, a7, a8] t kd wv d lp m1 m2) :=
 .cons (.same _) (.cons (.same _) (.cons (.same _) (.cons (.same _) (.cons (.same _) (.cons (.same _) (.cons (.same _) (.cons (.same _) (.cons (.same _) (.cons (.same _) (.cons (.same _) (.cons (.same _) (.cons .turn (.cons (.same _) (.cons (.same _) (.cons (.same _) .nil)))))))))))))))
theorem cg4 {S : List Fr} {Q : Post} {l : List ak} {v2 wv : PV} {R : List Ent} {ixi ixv m1 u1 m2 u2 : Nat} {a0 a1 a2 a3 a4 a5 a6 a7 a8 : PV} {t kd : Int} (r2 : (tSl ak.t).R l v2) (hs : ∀ r ∈ l, SR r) (hn : l.length ≤ 1000)
  (K : ∀ {h : Heap} {rv : PV} {es : List PV}, isL rv = true → All2 ak.t.R l es → Mem h (⟨rv, 44, 5, es⟩ :: ⟨.op ixi ixv 0, 69, 16, [.agg (ixC [a0, a1, a2, a3, a4, a5, a6, a7, a8] t kd wv rv (-1) (.om m1 u1) (.om m2 u2))]⟩ :: ⟨.om m1 u1, 66, 2, []⟩ :: ⟨.om m2 u2, 67, 2, []⟩ :: R) → PX Tryz.prog 2 S Q [(16, .op ixi ixv 0)] h) :
  ∀ (m : Nat) {i : Int} {rv : PV} {es : List PV} {h : Heap}, m = Int.toNat ((l.length : Int) - i) → 0 ≤ i → i ≤ l.length → isL rv = true → Wri rv es → All2 ak.t.R (l.take i.toNat) es →
   Mem h (⟨rv, 44, 5, es⟩ :: ⟨.op ixi ixv 0, 69, 16, [.agg (ixC [a0, a1, a2, a3, a4, a5, a6, a7, a8] t kd wv rv (-1) (.om m1 u1) (.om m2 u2))]⟩ :: ⟨.om m1 u1, 66, 2, []⟩ :: ⟨.om m2 u2, 67, 2, []⟩ :: R) →
   RC Tryz.prog (.loop db9) S Q [(79, vi i), (78, vi (l.length : Int)), (77, v2), (16, .op ixi ixv 0)] h
 | 0, i, rv, es, h, hm, h0, h1, hne, hw, hl, M => by
  refine bt ?_
  refine ah (af (ab (ba rfl rfl cy) (aw (ai (ah (bc rfl (fun hc => ?_) fun hc => ?_))))))
  ·simp only [decide_eq_true_eq] at hc; omega
  ·rw [List.take_of_length_le (by omega)] at hl
   exact dm (fb (df (wP (K hne hl M) rfl)))
 | m + 1, i, rv, es, h, hm, h0, h1, hne, hw, hl, M => by
  have hlt : i < (l.length : Int) := by omega
  have hinc : wr (i + 1) = i + 1 := du (by omega) (by omega)
  refine bt ?_
  refine ah (af (ab (ba rfl rfl cy) (aw (ai (ah (bc rfl (fun hc => ?_) fun hc => ?_))))))
  ·obtain ⟨g, e0, q0⟩ := dl (i := i) r2 h0 hlt
   refine ay (ai (ah (bd (ah (af (ab (bq rfl rfl e0) (ab (br rfl (TR.cnt _ q0) (TR.agg _ q0)) ?_)))))))
   refine dh (x := .agg [vi 0, nilS, vi 0, vi 0, nilS]) M rfl rfl (fun i3 w3 h3 M3 => ?_)
   refine db (k := 0) (v := g) M3 rfl rfl rfl (TR.cnt _ q0) (fun h4 M4 => aw (ai ?_))
   replace M4 : Mem h4 (⟨.op i3 w3 0, 44, 5, [g]⟩ :: ⟨rv, 44, 5, es⟩ :: ⟨.op ixi ixv 0, 69, 16, [.agg (ixC [a0, a1, a2, a3, a4, a5, a6, a7, a8] t kd wv rv (-1) (.om m1 u1) (.om m2 u2))]⟩ :: ⟨.om m1 u1, 66, 2, []⟩ :: ⟨.om m2 u2, 67, 2, []⟩ :: R) := M4
   have hrow : SR (ix l i) := by rw [px h0 hlt]; exact hs _ (List.getElem_mem _)
   obtain ⟨d, b1, a9⟩ := bz5 q0 hrow
   have b0 := (bn9 M4 (k := 1) rfl hne)
   refine af (mV rfl (mV rfl (ab (dp rfl rfl) (ab (bf rfl) (ab (cp (k := 2) (off := 12) (w := rv) M4 rfl rfl (mk1 b0.2)) (ab (fw (k := 0) M4 rfl rfl (TR.agg _ q0)) ?_))))))
   refine cL b1 rfl rfl (aq (TR.clo _ q0) bg) (ab (v := .fs true [d]) (iw rfl (all_cons (TR.cnt _ a9) lu)) ?_)
   have hlen := hl.length
   have hti : (l.take i.toNat).length = i.toNat := by rw [List.length_take]; omega
   have ff : fits (es.length + [d].length) 72 = true := oz (by simp only [List.length_cons, List.length_nil]; omega) (by simp only [List.length_cons, List.length_nil]; omega)
   refine pt (k := 1) (es := es) (news := [d]) M4 rfl rfl rfl hne hw (an6 (.inr ⟨true, rfl⟩) (by intro y hy; rw [List.mem_singleton.1 hy]; exact TR.cnt _ a9)) ff (fun a h5 hna hwa M5 => ?_)
   replace M5 : Mem h5 (⟨.op i3 w3 0, 44, 5, [g]⟩ :: ⟨a, 44, 5, es ++ [d]⟩ :: ⟨.op ixi ixv 0, 69, 16, [.agg (ixC [a0, a1, a2, a3, a4, a5, a6, a7, a8] t kd wv rv (-1) (.om m1 u1) (.om m2 u2))]⟩ :: ⟨.om m1 u1, 66, 2, []⟩ :: ⟨.om m2 u2, 67, 2, []⟩ :: R) := M5
   refine ab (dp rfl rfl) (ab (bf rfl) ?_)
   refine jx (off := 12) (k := 2) (v := a) (ds := [a]) M5 rfl rfl rfl (bn9 M5 (k := 1) rfl hna).1 rfl (by simp [ixC]) (fun h6 M6 => aw (dj (ai ?_)))
   replace M6 : Mem h6 (⟨.op i3 w3 0, 44, 5, [g]⟩ :: ⟨a, 44, 5, es ++ [d]⟩ :: ⟨.op ixi ixv 0, 69, 16, [.agg (ixC [a0, a1, a2, a3, a4, a5, a6, a7, a8] t kd wv a (-1) (.om m1 u1) (.om m2 u2))]⟩ :: ⟨.om m1 u1, 66, 2, []⟩ :: ⟨.om m2 u2, 67, 2, []⟩ :: R) := M6
   refine af (ab (ba rfl rfl ep) (mV rfl (aw (cx ?_))))
   have hta : l.take (i + 1).toNat = l.take i.toNat ++ [ix l i] := by rw [show (i + 1).toNat = i.toNat + 1 by omega, List.take_succ_eq_append_getElem (by omega), px h0 hlt]
   refine li ?_ (cg4 r2 hs hn K m (i := i + 1) (by omega) (by omega) (by omega) hna hwa (by rw [hta]; exact All2.app hl ⟨a9, trivial⟩) (Mem.sub M6 (.cons _ (List.Sublist.refl _))))
   exact ko (by show some (vi (wr (i + 1))) = _; rw [hinc]) (sB rfl)
  ·simp only [decide_eq_false_iff_not] at hc; omega
def IsIx (p : aa) (t : Int) (l : List ak) (x : PV) (L : List Ent) : Prop := ∃ a0 a1 a2 a3 a4 a5 a6 a7 a8 wv rv m1 u1 m2 u2 ps N, x = .fp (.agg (ixC [a0, a1, a2, a3, a4, a5, a6, a7, a8] t (il p t) wv rv (lpN p t) (.om m1 u1) (.om m2 u2))) ∧
 aa.t.R (ownP p t) (.agg [a0, a1, a2, a3, a4, a5, a6, a7, a8]) ∧ (tSl tI).R (ee p t) wv ∧ (tSl ak.t).R l rv ∧ TsM (ix (ee p t) (lpN p t)) (bNd p t l).2 ps N ∧ MapB (bNd p t l).1 ∧ MapB (bNd p t l).2 ∧ L = ⟨.om m1 u1, 66, 2, exE (mpV (bNd p t l).1)⟩ :: ⟨.om m2 u2, 67, 2, exE ps⟩ :: N
theorem dx4 {p : aa} {t : Int} {l : List ak} {v0 v2 : PV} {h : Heap} {R : List Ent} (r0 : aa.t.R p v0) (r2 : (tSl ak.t).R l v2) (hn : l.length ≤ 1000) (hs : ∀ r ∈ l, SR r) (hok : newE p t l = 0 → NewOK p t l) (M : Mem h R) :
  ∃ r h', FnX Tryz.prog 15 [v0, vi t, v2] h r h' ∧ ((newE p t l ≠ 0 ∧ r = .tup [nilP, vi (newE p t l)] ∧ Mem h' R) ∨ (newE p t l = 0 ∧ ∃ x L, r = .tup [x, vi 0] ∧ IsIx p t l x L ∧ Mem h' (L ++ R))) := by
 generalize hres : newE p t l = res at *
 refine fnX cl7 (by simp) ?_
 refine ah (af (ab (dt rfl (TR.cnt _ r0)) (ab (v := nilP) (au rfl) (ab (v := vi 0) (au rfl) (aw (ai ?_))))))
 unfold newE at hres
 refine ah (ah (af (ab (br rfl (TR.cnt _ r0) (TR.agg _ r0)) (mV rfl ?_))))
 refine cL (bg9 r0) rfl rfl (aq (TR.clo _ r0) (aq rfl bg)) (mV rfl (ab (ft rfl rfl) (ab (ft rfl rfl) (mV rfl (mV rfl (aw (ai ?_)))))))
 refine ah (af (mV rfl (ab (ba rfl rfl ma) (aw (ai (bc rfl (fun hc => ?_) fun hc => ?_))))))
 ·replace hc : (!decide ((gy p t).2 = 0)) = true := hc
  rw [if_pos hc] at hres
  refine ah (af (mV rfl (ab (v := nilP) (au rfl) (mV rfl (aw (ai ?_))))))
  refine ub (.tmp rfl (.tmp rfl .nil)) (.inl ⟨by rw [← hres]; simpa using hc, ?_, M⟩)
  show PV.tup [nilP, vi _] = _
  rw [hres]
 ·replace hc : (!decide ((gy p t).2 = 0)) = false := hc
  rw [if_neg (by rw [hc]; simp)] at hres
  refine ay (ai (ah (af (ah6 M (fun mi mv h1 M1 => mV rfl (aw (ai ?_)))))))
  refine ah (ah (af (mV rfl (ab (cw rfl (cf r2 Tryz.underlying32 _)) (ab (v := vi 0) (au rfl) (aw (ai (bd ?_))))))))
  refine wC (by3 r0 r2 (res := res) (R := R) (fun {h'} hr M' => .inl ⟨hr, rfl, M'⟩) ?_ l.length (i := 0) (z := []) (es := []) (by omega) (by omega) (by omega) trivial hres M1) rfl
  ·intro h2 hr M2
   have OK := hok hr
   have hb := OK.b
   obtain ⟨pr, a3, a1⟩ := dv0 r0 OK.a OK.b OK.c OK.d
   obtain ⟨wv, a4, rw_⟩ := ax0 (x1 := t) r0
   refine fe (ai (ah (af (ab (br rfl (TR.cnt _ r0) (TR.agg _ r0)) (mV rfl ?_)))))
   refine cL a3 rfl rfl (aq (TR.clo _ r0) (aq rfl bg)) (mV rfl (ab (br rfl (TR.cnt _ r0) (TR.agg _ r0)) (mV rfl ?_)))
   refine cL (bz0 r0) rfl rfl (aq (TR.clo _ r0) (aq rfl bg)) (ab (br rfl (TR.cnt _ r0) (TR.agg _ r0)) (mV rfl ?_))
   refine cL a4 rfl rfl (aq (TR.clo _ r0) (aq rfl bg)) ?_
   refine ah6 M2 (fun m1 u1 h3 M3 => ah6 M3 (fun m2 u2 h4 M4 => ?_))
   have a0 := a1
   obtain ⟨c1, c2, c3, c4, c5, c6, c7, c8, rfl, _⟩ := a0
   have hwv := rw_.1
   refine ab (v := .agg (ixC [vs (ownP p t).Name, c1, c2, c3, c4, c5, c6, c7, c8] t (il p t) wv nilS (-1) (.om m1 u1) (.om m2 u2))) (nt (cs := ixC [vs (ownP p t).Name, c1, c2, c3, c4, c5, c6, c7, c8] t (il p t) wv nilS (-1) (.om m1 u1) (.om m2 u2)) rfl (by obtain ⟨es, he, _⟩ := hwv; rcases he with ⟨ad, rfl, _⟩ | ⟨tg, rfl⟩ <;> rfl)) ?_
   refine wy M4 rfl rfl (fun ixi ixv h5 M5 => mV rfl (aw (ai ?_)))
   refine ah (ah (af (mV rfl (ab (cw rfl (cf r2 Tryz.underlying32 _)) (ab (v := vi 0) (au rfl) (aw (ai (bd ?_))))))))
   have M6 : Mem h5 (⟨nilS, 44, 5, []⟩ :: ⟨.op ixi ixv 0, 69, 16, [.agg (ixC [vs (ownP p t).Name, c1, c2, c3, c4, c5, c6, c7, c8] t (il p t) wv nilS (-1) (.om m1 u1) (.om m2 u2))]⟩ :: ⟨.om m1 u1, 66, 2, []⟩ :: ⟨.om m2 u2, 67, 2, []⟩ :: R) :=
    pq (M5.perm (.cons _ (.swap _ _ _))) 44 (.inl ⟨none, rfl, rfl⟩) (by simp)
   refine wC (cg4 r2 hs hn (R := R) ?_ l.length (i := 0) (rv := nilS) (es := []) (by omega) (by omega) (by omega) rfl (.inl rfl) trivial M6) rfl
   ·intro h7 rv es hne hl M7
    refine fe (ai (ah (nm ?_)))
    refine be8 (k := 0) (j := 1) (cs := fun v => ixC [vs (ownP p t).Name, c1, c2, c3, c4, c5, c6, c7, c8] t (il p t) wv v (-1) (.om m1 u1) (.om m2 u2)) M7 rfl rfl hne (fun d => cy0) (fun d => rfl) (fun d h8 hd M8 => ?_)
    replace M8 : Mem h8 (⟨.op ixi ixv 0, 69, 16, [.agg (ixC [vs (ownP p t).Name, c1, c2, c3, c4, c5, c6, c7, c8] t (il p t) wv d (-1) (.om m1 u1) (.om m2 u2))]⟩ :: ⟨.om m1 u1, 66, 2, []⟩ :: ⟨.om m2 u2, 67, 2, []⟩ :: R) := M8
    have rd : (tSl ak.t).R l d := ⟨⟨es, hd, hl⟩, by omega⟩
    obtain ⟨a7, h9, a2, rfl, ps, N, k1, k2, k3, M9⟩ := dm7 a1 OK.a (bx9 p t OK.a) rw_ rd (by rw [ar9 p t OK.a]; exact OK.e) M8
    rw [ar9 p t OK.a] at k1 k2 k3 M9
    refine de (mV rfl (dc (ac9 rfl rfl a2 (uy (ai ?_)))))
    refine ah (nm ?_)
    refine ak3 (k := 0) (E' := [(16, .fp (.agg (ixC [vs (ownP p t).Name, c1, c2, c3, c4, c5, c6, c7, c8] t (il p t) wv d (lpN p t) (.om m1 u1) (.om m2 u2))))]) M9 rfl (rm rfl vd) (fun a6 a5 => ?_)
    refine de (mV rfl (dc (de (mV rfl (dc (de (ab (v := vi 0) (au rfl) (dc (uy (ai ?_)))))))))) 
    exact ub (.tmp rfl (.tmp rfl .nil)) (.inr ⟨hr, _, _, rfl, ⟨_, _, _, _, _, _, _, _, _, wv, d, m1, u1, m2, u2, ps, N, rfl, a1, rw_, rd, k1, k2, k3, rfl⟩, a5⟩)
theorem el3 {l : List Int} {a : PV} {es : List PV} {R : List Ent} {h : Heap} (q : All2 tI.R l es) (ne : isL a = true) (hl : l.length ≤ 1000000) (wi : Wri a es) (M : Mem h (⟨a, 3, 1, es⟩ :: R)) :
  ∃ h2 es', FnX Tryz.prog 56 [a] h (.tup []) h2 ∧ Mem h2 (⟨a, 3, 1, es'⟩ :: R) ∧ All2 tI.R (l.mergeSort fun x y => decide (x ≤ y)) es' := by
 obtain ⟨r, h2, X, es', M2, q2, w2, rfl⟩ := bf3 ce4.enters Go.Proofs.Tryz.sortI_calls Go.Proofs.Tryz.sortI_none q ne hl wi M
 exact ⟨h2, es', X, M2, q2⟩
theorem bi4 {S : List Fr} {Q : Post} {p : aa} {t bits ib : Int} {W : List Int} {l : List ak} {r : ak} {v0 v2 wv ov g : PV} {a1 a0 : Nat} {eso : List PV} (r0 : aa.t.R p v0) (r2 : (tSl ak.t).R l v2) (rw_ : (tSl tI).R W wv) (rg : ak.t.R r g) (hn : l.length ≤ 30) (hk : ∀ j : Int, 0 ≤ j → j < l.length → (ix l j).Entry.Keys.length ≤ W.length) (hW : ∀ j : Int, 0 ≤ j → j < W.length → 0 ≤ ix W j)
  (K : ∀ {h : Heap} {bv : PV} {es : List PV}, isL bv = true → All2 ae.t.R (kb p t W l r) es → Mem h [⟨bv, 99, 2, es⟩, ⟨.op a1 a0 0, 44, 5, [g]⟩, ⟨ov, 3, 1, eso⟩] → PX Tryz.prog 2 S Q [(40, vi ib), (39, vi (l.length : Int)), (38, v2), (15, bv), (14, .op a1 a0 0), (12, ov), (11, vi bits), (10, wv), (3, .fp v0), (2, v2), (1, vi t)] h) :
  ∀ (m : Nat) {i : Int} {bv : PV} {es : List PV} {h : Heap}, m = Int.toNat ((l.length : Int) - i) → 0 ≤ i → i ≤ l.length → isL bv = true → Wri bv es → All2 ae.t.R (((l.take i.toNat).filter fun x => dk p t x r).map fun x => ip x.Entry W) es → Mem h [⟨bv, 99, 2, es⟩, ⟨.op a1 a0 0, 44, 5, [g]⟩, ⟨ov, 3, 1, eso⟩] →
   RC Tryz.prog (.loop df5) S Q [(46, vi i), (45, vi (l.length : Int)), (44, v2), (40, vi ib), (39, vi (l.length : Int)), (38, v2), (15, bv), (14, .op a1 a0 0), (12, ov), (11, vi bits), (10, wv), (3, .fp v0), (2, v2), (1, vi t)] h
 | 0, i, bv, es, h, hm, h0, h1, hne, hw, ha, M => by
  refine bt ?_
  refine ah (af (ab (ba rfl rfl cy) (aw (ai (ah (bc rfl (fun hc => ?_) fun hc => ?_))))))
  ·simp only [decide_eq_true_eq] at hc; omega
  ·rw [List.take_of_length_le (by omega)] at ha
   exact dm (fb (df (wP (K hne ha M) rfl)))
 | m + 1, i, bv, es, h, hm, h0, h1, hne, hw, ha, M => by
  have hlt : i < (l.length : Int) := by omega
  have hinc : wr (i + 1) = i + 1 := du (by omega) (by omega)
  have hta : l.take (i + 1).toNat = l.take i.toNat ++ [ix l i] := by rw [show (i + 1).toNat = i.toNat + 1 by omega, List.take_succ_eq_append_getElem (by omega), px h0 hlt]
  refine bt ?_
  refine ah (af (ab (ba rfl rfl cy) (aw (ai (ah (bc rfl (fun hc => ?_) fun hc => ?_))))))
  ·obtain ⟨e, e0, q0⟩ := dl (i := i) r2 h0 hlt
   obtain ⟨we, ge, re⟩ := ak.g_Entry q0
   refine ay (ai (ah (bd (ah (af (ab (bq rfl rfl e0) (ab (br rfl (TR.cnt _ q0) (TR.agg _ q0)) ?_)))))))
   refine dh (x := .agg [vi 0, nilS, vi 0, vi 0, nilS]) M rfl rfl (fun i3 w3 h3 M3 => ?_)
   refine db (k := 0) (v := e) M3 rfl rfl rfl (TR.cnt _ q0) (fun h4 M4 => aw (ai ?_))
   replace M4 : Mem h4 [⟨.op i3 w3 0, 44, 5, [e]⟩, ⟨bv, 99, 2, es⟩, ⟨.op a1 a0 0, 44, 5, [g]⟩, ⟨ov, 3, 1, eso⟩] := M4
   refine ah (af (ab (br rfl (TR.cnt _ r0) (TR.agg _ r0)) (mV rfl (ab (fw (k := 0) M4 rfl rfl (TR.agg _ q0)) (ab (fw (k := 2) M4 rfl rfl (TR.agg _ rg)) ?_)))))
   refine cL (cf6 r0 q0 rg) rfl rfl (aq (TR.clo _ r0) (aq rfl (aq (TR.clo _ q0) (aq (TR.clo _ rg) bg)))) (aw (ai (bc rfl (fun hd => ?_) fun hd => ?_)))
   ·obtain ⟨c, a3, a2⟩ := bz8 re rw_ (hk i h0 hlt) hW
    refine af (mV rfl (ab (bf rfl) (ab (cp (k := 0) (off := 1) M4 rfl rfl ge) (mV rfl ?_))))
    refine cL a3 rfl rfl (aq (TR.clo _ re) (aq (TR.clo _ rw_) bg)) (ab (v := .fs true [c]) (iw rfl (all_cons (TR.cnt _ a2) lu)) ?_)
    have hlen := ha.length
    have hfl : (((l.take i.toNat).filter fun x => dk p t x r).map fun x => ip x.Entry W).length ≤ i.toNat := by
     rw [List.length_map]
     refine Nat.le_trans (List.length_filter_le _ _) ?_
     rw [List.length_take]; omega
    have ff : fits (es.length + [c].length) 16 = true := oz (by simp only [List.length_cons, List.length_nil]; omega) (by simp only [List.length_cons, List.length_nil]; omega)
    refine pt (k := 1) (es := es) (news := [c]) M4 rfl rfl rfl hne hw (an6 (.inr ⟨true, rfl⟩) (by intro y hy; rw [List.mem_singleton.1 hy]; exact TR.cnt _ a2)) ff (fun a h5 hna hwa M5 => mV rfl (aw (dj (ai ?_))))
    replace M5 : Mem h5 [⟨.op i3 w3 0, 44, 5, [e]⟩, ⟨a, 99, 2, es ++ [c]⟩, ⟨.op a1 a0 0, 44, 5, [g]⟩, ⟨ov, 3, 1, eso⟩] := M5
    refine af (ab (ba rfl rfl ep) (mV rfl (aw (cx ?_))))
    refine li ?_ (bi4 r0 r2 rw_ rg hn hk hW K m (i := i + 1) (by omega) (by omega) (by omega) hna hwa (by rw [hta, List.filter_append, List.map_append]; refine All2.app ha ?_; simp only [List.filter_cons, hd, if_true, List.filter_nil, List.map_cons, List.map_nil]; exact ⟨a2, trivial⟩) (Mem.sub M5 (.cons _ (List.Sublist.refl _))))
    exact ko (by show some (vi (wr (i + 1))) = _; rw [hinc]) (sB rfl)
   ·refine ay (dj (ai (af (ab (ba rfl rfl ep) (mV rfl (aw (cx ?_)))))))
    refine li ?_ (bi4 r0 r2 rw_ rg hn hk hW K m (i := i + 1) (by omega) (by omega) (by omega) hne hw (by rw [hta, List.filter_append, List.map_append]; simp only [List.filter_cons, hd, Bool.false_eq_true, if_false, List.filter_nil, List.map_nil, List.append_nil]; exact ha) (Mem.sub M4 (.cons _ (List.Sublist.refl _))))
    exact ko (by show some (vi (wr (i + 1))) = _; rw [hinc]) (sB rfl)
  ·simp only [decide_eq_false_iff_not] at hc; omega
abbrev RSh (res : List Int × Int) : PV → Prop := fun r => ∃ c, r = .tup [c, vi res.2] ∧ (tSl tI).R res.1 c
theorem bi1 {S : List Fr} {p : aa} {t bits : Int} {W : List Int} {l : List ak} {v0 v2 wv : PV} {res : List Int × Int} (r0 : aa.t.R p v0) (r2 : (tSl ak.t).R l v2) (rw_ : (tSl tI).R W wv) (hn : l.length ≤ 30) (hk : ∀ j : Int, 0 ≤ j → j < l.length → (ix l j).Entry.Keys.length ≤ W.length) (hW : ∀ j : Int, 0 ≤ j → j < W.length → 0 ≤ ix W j)
  (K : ∀ {h : Heap} {out : List Int} {ov : PV} {es : List PV}, isL ov = true → Wri ov es → All2 tI.R out es → out.length ≤ 30 → (out.mergeSort fun x y => decide (x ≤ y), 0) = res → Mem h [⟨ov, 3, 1, es⟩] → PX Tryz.prog 0 S (QR Tryz.prog [(6, none), (7, none)] (RSh res)) [(12, ov)] h) :
  ∀ (m : Nat) {i : Int} {out : List Int} {ov : PV} {es : List PV} {h : Heap}, m = Int.toNat ((l.length : Int) - i) → 0 ≤ i → i ≤ l.length → isL ov = true → Wri ov es → All2 tI.R out es → (out.length : Int) ≤ i → jl p t W bits l (l.drop i.toNat) out = res → Mem h [⟨ov, 3, 1, es⟩] →
   RC Tryz.prog (.loop cy8) S (QR Tryz.prog [(6, none), (7, none)] (RSh res)) [(40, vi i), (39, vi (l.length : Int)), (38, v2), (12, ov), (11, vi bits), (10, wv), (3, .fp v0), (2, v2), (1, vi t)] h
 | 0, i, out, ov, es, h, hm, h0, h1, hne, hw, ha, hol, hp, M => by
  refine bt ?_
  refine ah (af (ab (ba rfl rfl cy) (aw (ai (ah (bc rfl (fun hc => ?_) fun hc => ?_))))))
  ·simp only [decide_eq_true_eq] at hc; omega
  ·rw [List.drop_of_length_le (by omega)] at hp
   exact dm (fb (df (wP (K hne hw ha (by omega) hp M) rfl)))
 | m + 1, i, out, ov, es, h, hm, h0, h1, hne, hw, ha, hol, hp, M => by
  have hlt : i < (l.length : Int) := by omega
  have hinc : wr (i + 1) = i + 1 := du (by omega) (by omega)
  refine bt ?_
  refine ah (af (ab (ba rfl rfl cy) (aw (ai (ah (bc rfl (fun hc => ?_) fun hc => ?_))))))
  ·obtain ⟨g, e0, q0⟩ := dl (i := i) r2 h0 hlt
   obtain ⟨we, ge, re⟩ := ak.g_Entry q0
   have gid : fieldR 0 1 false g = some (vi (ix l i).ID) := by obtain ⟨_, _, rfl, _⟩ := q0; rfl
   refine ay (ai (ah (bd (ah (af (ab (bq rfl rfl e0) (ab (br rfl (TR.cnt _ q0) (TR.agg _ q0)) ?_)))))))
   refine dh (x := .agg [vi 0, nilS, vi 0, vi 0, nilS]) M rfl rfl (fun a1 a0 h3 M3 => ?_)
   refine db (k := 0) (v := g) M3 rfl rfl rfl (TR.cnt _ q0) (fun h4 M4 => aw (ai ?_))
   replace M4 : Mem h4 [⟨.op a1 a0 0, 44, 5, [g]⟩, ⟨ov, 3, 1, es⟩] := M4
   refine ah (af (ab (v := nilS) (au rfl) (aw (ai ?_))))
   refine ah (ah (af (mV rfl (ab (cw rfl (cf r2 Tryz.underlying32 _)) (ab (v := vi 0) (au rfl) (aw (ai (bd ?_))))))))
   refine wC (bi4 (t := t) (bits := bits) (ib := i) (r := ix l i) (bv := nilS) (es := []) r0 r2 rw_ q0 hn hk hW ?_ l.length (i := 0) (by omega) (by omega) (by omega) rfl (.inl rfl) trivial (pq M4 99 (.inl ⟨none, rfl, rfl⟩) (by simp))) rfl
   ·intro h5 bv esb hnb hab M5
    rw [List.drop_eq_getElem_cons (by omega), jl] at hp
    simp only [LET] at hp
    rw [← px h0 hlt] at hp
    refine fe (ai (ah (nm ?_)))
    refine yv (k := 0) (E' := fun d => [(40, vi i), (39, vi (l.length : Int)), (38, v2), (15, d), (14, .op a1 a0 0), (12, ov), (11, vi bits), (10, wv), (3, .fp v0), (2, v2), (1, vi t)]) M5 rfl hnb (fun d => dg rfl (dg rfl (dg rfl (rm rfl (dg rfl (dg rfl (dg rfl (dg rfl (dg rfl (dg rfl (dg rfl vd))))))))))) (fun d h6 hd M6 => ?_)
    replace M6 : Mem h6 [⟨.op a1 a0 0, 44, 5, [g]⟩, ⟨ov, 3, 1, es⟩] := M6
    have hbl : (kb p t W l (ix l i)).length ≤ 30 := by
     unfold kb
     rw [List.length_map]
     exact Nat.le_trans (List.length_filter_le _ _) hn
    have rd : (tSl ae.t).R (kb p t W l (ix l i)) d := ⟨⟨esb, hd, hab⟩, by omega⟩
    obtain ⟨c, a4, a3⟩ := bz8 re rw_ (hk i h0 hlt) hW
    have a2 : (tSl ae.t).R [ip (ix l i).Entry W] (.fs true [c]) := tp ⟨a3, trivial⟩ (by simp)
    obtain ⟨c0, a5, a6⟩ := dn4 (x2 := bits) a2 rd (by simp)
    refine de (ab (bf rfl) (dc (de (ab (cp (k := 0) (off := 1) M6 rfl rfl ge) (dc (de (mV rfl (dc ?_))))))))
    refine de (cL a4 rfl rfl (aq (TR.clo _ re) (aq (TR.clo _ rw_) bg)) (dc (de (ab (v := .fs true [c]) (iw rfl (all_cons (TR.cnt _ a3) lu)) (dc ?_)))))
    refine de (mV rfl (dc (de (mV rfl (dc (de (cL a5 rfl rfl (aq (TR.clo _ a2) (aq (TR.clo _ rd) (aq rfl bg))) (dc ?_))))))))
    refine de (mV rfl (dc (de (ab (ft rfl rfl) (dc (de (ab (ft rfl rfl) (dc (de (mV rfl (dc (de (mV rfl (dc (uy (ai ?_))))))))))))))))
    generalize fx [ip (ix l i).Entry W] (kb p t W l (ix l i)) bits = q at *
    refine ah (ah (af (mV rfl (ab (ba rfl rfl ma) (aw (ai (bc rfl (fun hd => ?_) fun hd => ?_)))))))
    ·replace hd : (!decide (q.2 = 0)) = true := hd
     rw [if_pos hd] at hp
     refine ah (af (mV rfl (ab (v := nilS) (au rfl) (mV rfl (aw (ai ?_))))))
     exact dw (.tmp rfl (.tmp rfl .nil)) (ck rfl) ⟨nilS, by rw [← hp]; rfl, by rw [← hp]; exact gu⟩
    ·replace hd : (!decide (q.2 = 0)) = false := hd
     rw [if_neg (by rw [hd]; simp)] at hp
     refine ay (ai (ah (af (mV rfl (ab (cw rfl (cf a6 Tryz.underlying96 _)) (ab (ba rfl rfl oe) (aw (ai (bc rfl (fun he => ?_) fun he => ?_)))))))))
     ·replace he : decide ((q.1.length : Int) = 0) = true := he
      rw [if_pos he] at hp
      refine af (mV rfl (ab (bf rfl) (ab (cp (k := 0) (off := 0) M6 rfl rfl gid) (ab (v := .fs true [vi (ix l i).ID]) (iw rfl (all_cons rfl lu)) ?_))))
      have hlen := ha.length
      have ff : fits (es.length + [vi (ix l i).ID].length) 8 = true := oz (by simp only [List.length_cons, List.length_nil]; omega) (by simp only [List.length_cons, List.length_nil]; omega)
      refine pt (k := 1) (es := es) (news := [vi (ix l i).ID]) M6 rfl rfl rfl hne hw (an6 (.inr ⟨true, rfl⟩) (by intro y hy; rw [List.mem_singleton.1 hy]; rfl)) ff (fun a h7 hna hwa M7 => mV rfl (aw (dj (ai ?_))))
      replace M7 : Mem h7 [⟨.op a1 a0 0, 44, 5, [g]⟩, ⟨a, 3, 1, es ++ [vi (ix l i).ID]⟩] := M7
      refine af (ab (ba rfl rfl ep) (mV rfl (aw (cx ?_))))
      refine li ?_ (bi1 r0 r2 rw_ hn hk hW K m (i := i + 1) (out := out ++ [(ix l i).ID]) (by omega) (by omega) (by omega) hna hwa (All2.app ha ⟨rfl, trivial⟩) (by rw [List.length_append, List.length_singleton]; omega) (by rw [show (i + 1).toNat = i.toNat + 1 by omega]; exact hp) (Mem.sub M7 (.cons _ (List.Sublist.refl _))))
      exact ko (by show some (vi (wr (i + 1))) = _; rw [hinc]) (sB rfl)
     ·replace he : decide ((q.1.length : Int) = 0) = false := he
      rw [if_neg (by rw [he]; simp)] at hp
      refine ay (dj (ai (af (ab (ba rfl rfl ep) (mV rfl (aw (cx ?_)))))))
      refine li ?_ (bi1 r0 r2 rw_ hn hk hW K m (i := i + 1) (by omega) (by omega) (by omega) hne hw ha (by omega) (by rw [show (i + 1).toNat = i.toNat + 1 by omega]; exact hp) (Mem.sub M6 (.cons _ (List.Sublist.refl _))))
      exact ko (by show some (vi (wr (i + 1))) = _; rw [hinc]) (sB rfl)
  ·simp only [decide_eq_false_iff_not] at hc; omega
theorem dn1 {x0 : aa} {x1 : Int} {x2 : List ak} {v0 v2 : PV} (r0 : aa.t.R x0 v0) (r2 : (tSl ak.t).R x2 v2) (hs : ∀ r ∈ x2, SR r) (hn : x2.length ≤ 30) (hT : x0.Tables.length ≤ 16) : ∃ c0, FnR Tryz.prog 19 [v0, vi x1, v2] (.tup [c0, vi (fj x0 x1 x2).2]) ∧ (tSl tI).R (fj x0 x1 x2).1 c0 := by
 generalize hres : fj x0 x1 x2 = res
 obtain ⟨r, h1, c0, rfl, hr⟩ : ∃ r, FnR Tryz.prog 19 [v0, vi x1, v2] r ∧ RSh res r := by
  unfold fj at hres
  simp only [LET] at hres
  have hOK : newE x0 x1 x2 = 0 → NewOK x0 x1 x2 := fun h => ej9 ((ad5 _ _ _).1 (by rw [← br5]; exact h)) (by omega) (by omega)
  obtain ⟨a3, h2, a0, D⟩ := dx4 (t := x1) (R := []) r0 r2 (by omega) hs hOK (Mem.nil ⟨0, []⟩)
  rw [br5] at D
  refine fnE cm0 (by simp) ?_
  refine ah (af (ab (dt rfl (TR.cnt aa.t r0)) (ab (v := nilS) (au rfl) (ab (v := vi 0) (au rfl) (aw (ai ?_))))))
  refine ah (ah (nm ?_))
  refine de (ab (br rfl (TR.cnt aa.t r0) (TR.agg aa.t r0)) (dc (de (mV rfl (dc (de (mV rfl (dc ?_))))))))
  refine ac9 rfl rfl a0 ?_
  rcases D with ⟨hne, rfl, M2⟩ | ⟨he, x, L, rfl, I, M2⟩
  ·rw [if_pos (by simpa using hne)] at hres
   generalize oh x0 x1 x2 = c at *
   refine de (mV rfl (dc (de (ab (ft rfl rfl) (dc (de (ab (ft rfl rfl) (dc (de (mV rfl (dc (de (mV rfl (dc (uy (ai ?_))))))))))))))))
   refine ah (af (mV rfl (ab (ba rfl rfl ma) (aw (ai (bc rfl (fun hd => ?_) fun hd => ?_))))))
   ·refine ah (af (mV rfl (ab (v := nilS) (au rfl) (mV rfl (aw (ai ?_))))))
    exact dw (.tmp rfl (.tmp rfl .nil)) (ck rfl) ⟨nilS, by rw [← hres]; rfl, by rw [← hres]; exact gu⟩
   ·have : c = 0 := by simpa using hd
    exact absurd this hne
  ·have G := (ad5 _ _ _).1 he
   rw [he, if_neg (by simp)] at hres
   refine de (mV rfl (dc (de (ab (ft rfl rfl) (dc (de (ab (ft rfl rfl) (dc (de (mV rfl (dc (de (mV rfl (dc (uy (ai ?_))))))))))))))))
   refine ah (af (mV rfl (ab (v := vb false) (ba rfl rfl dr9) (aw (ai (bc rfl (fun hd => by cases hd) fun hd => ?_))))))
   obtain ⟨wv, a2, rw_⟩ := ax0 (x1 := x1) r0
   refine ay (ai (ah (af (ab (br rfl (TR.cnt aa.t r0) (TR.agg aa.t r0)) (mV rfl ?_)))))
   refine cL a2 rfl rfl (aq (TR.clo _ r0) (aq rfl bg)) (ab (br rfl (TR.cnt aa.t r0) (TR.agg aa.t r0)) (mV rfl ?_))
   refine cL (dm3 r0) rfl rfl (aq (TR.clo _ r0) (aq rfl bg)) (mV rfl (mV rfl (aw (ai ?_))))
   refine ah (ah (af (mV rfl (ab (ba rfl rfl oe) (aw (ai (bc rfl (fun hd => ?_) fun hd => ?_)))))))
   ·replace hd : decide (lm x0 x1 = 0) = true := hd
    rw [if_pos hd] at hres
    refine ah (af (ab (v := nilS) (au rfl) (ab (v := vi 0) (au rfl) (aw (ai ?_)))))
    exact dw (.tmp rfl (.tmp rfl .nil)) (ck rfl) ⟨nilS, by rw [← hres]; rfl, by rw [← hres]; exact gu⟩
   ·replace hd : decide (lm x0 x1 = 0) = false := hd
    rw [if_neg (by rw [hd]; simp)] at hres
    have hwl : (ee x0 x1).length = (ix x0.Tables x1).Keys.length := by rw [Widths_eq]; exact g_w G
    refine ay (ai (ah (af (ab (v := nilS) (au rfl) (aw (ai ?_))))))
    refine ah (ah (af (mV rfl (ab (cw rfl (cf r2 Tryz.underlying32 _)) (ab (v := vi 0) (au rfl) (aw (ai (bd ?_))))))))
    refine wC (bi1 (t := x1) (bits := lm x0 x1) (res := res) (out := []) (ov := nilS) (es := []) r0 r2 rw_ hn (fun j j0 j1 => by rw [(aq2 G j0 j1).n, hwl]; omega) (fun j j0 j1 => by rw [Widths_eq] at j1 ⊢; exact (rwp rfl j0 j1).1) ?_ x2.length (i := 0) (by omega) (by omega) (by omega) rfl (.inl rfl) trivial (by simp) hres (pq (Mem.nil _) 3 (.inl ⟨none, rfl, rfl⟩) (by simp))) rfl
    ·intro h3 out ov es hne hw ha hol hp M3
     obtain ⟨h4, es', a1, M4, ha'⟩ := el3 ha hne (by omega) hw M3
     refine fe (ai (ah (nm (de (mV rfl (dc (ac9 rfl rfl a1 (uy (ai ?_)))))))))
     refine ah (nm ?_)
     refine yv (k := 0) (E' := fun d => [(12, d)]) M4 rfl hne (fun d => rm rfl vd) (fun d h5 hd M5 => ?_)
     refine de (mV rfl (dc (de (mV rfl (dc (de (ab (v := vi 0) (au rfl) (dc (uy (ai ?_))))))))))
     subst hp
     have rd : (tSl tI).R (out.mergeSort fun x y => decide (x ≤ y)) d := ⟨⟨es', hd, ha'⟩, by rw [List.length_mergeSort]; omega⟩
     exact dw (.tmp rfl (.tmp rfl .nil)) (ck (show closed (.tup _) = true from aq (TR.clo _ rd) (aq rfl bg))) ⟨d, rfl, rd⟩
 exact ⟨c0, h1, hr⟩

end Go.Proofs.YthdnpgpnodgicaaGreat
