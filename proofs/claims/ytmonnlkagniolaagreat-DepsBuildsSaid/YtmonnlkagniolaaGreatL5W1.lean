/-
 The code of each function does what its plain program says.
-/
import Derived.Test.YtmonnlkagniolaaGreatL5W0
set_option linter.unusedVariables false
set_option linter.unusedSimpArgs false
set_option maxRecDepth 100000
namespace Go.Proofs.YtmonnlkagniolaaGreat
open Go Go.Pb Go.RowKit
def RF140 (res : Int) (r : PV) : Prop := r = vi res
theorem ae0 {S : List Fr} {res : Int} {x0 : List Int} {v0 : PV} (r0 : (tSl tI).R x0 v0) {K0 : Unit → Int}
  (a3 : K0 () = res → PX Tryz.prog 0 S (QR Tryz.prog [(2, none)] (RF140 res)) [(3, vi 0)] ⟨0, []⟩) :
  ∀ {m : Nat} {a0 : Int} (a2 : m = Int.toNat ((x0.length : Int) - a0)) (a1 : 0 ≤ a0), nu x0 K0 m a0 = res → RC Tryz.prog (.loop bs2) S (QR Tryz.prog [(2, none)] (RF140 res)) [(8, vi a0), (7, vi (x0.length : Int)), (6, v0), (3, vi 0)] ⟨0, []⟩ := by
 intro m
 induction m with
 | zero =>
  intro a0 a2 a1 z
  rw [nu] at z
  refine bv (sR (bN cn rfl rfl (nS (am ?_))))
  refine bp rfl ?_ ?_ <;> intro c <;> try simp only [qa] at c
  ·omega
  refine dg (dq (dc ?_))
  exact wP (a3  z) rfl
 | succ m ih =>
  intro a0 a2 a1 z
  rw [nu] at z
  refine bv (sR (bN cn rfl rfl (nS (am ?_))))
  refine bp rfl ?_ ?_ <;> intro c <;> try simp only [qa] at c
  rotate_left
  ·omega
  refine ax (ap (am (bf (sR (af (bd rfl rfl (slI r0 (by omega) (by omega))) (lR rfl rfl rfl (mV rfl (nR ?_))))))))
  refine mV rfl (mV rfl (bN lx rfl rfl (nS ?_)))
  refine cd z rfl ?_ ?_ <;> clear z <;> intro c z <;> try simp only [qa] at c
  ·refine sR (mV rfl (mV rfl (nS ?_)))
   exact rR z rfl rfl rfl
  ·refine ax (cy (ap (av (bN dp rfl rfl (mV rfl (bn (cv ?_)))))))
   have s := da r0
   have o : wr (a0 + 1) = a0 + 1 := dj (by omega) (by omega)
   erw [o]
   exact wC (ih   (by omega) (by omega) z) rfl

theorem bj9 {x0 : List Int} {v0 : PV} (r0 : (tSl tI).R x0 v0) : FnR Tryz.prog 140 [v0] (vi (rt x0)) := by
 refine fnS (R := RF140) cz0 (fun _ h => h) rfl fun res z => ?_
 unfold rt at z
 refine sR (mI rfl (nR (mI rfl (nS (am (sR (mV rfl (af (cp rfl (ca r0 Tryz.underlying29 _)) ?_))))))))
 refine mI rfl (nS (bf ?_))
 refine wC (ae0 r0 ?_  rfl (by omega) z) rfl
 ·intro  z
  refine dy (ap (sR (mV rfl (mV rfl (nS ?_)))))
  exact rR z rfl rfl rfl

def RF139 (res : Int) (r : PV) : Prop := r = vi res
theorem cs4 {x0 : aa} {x1 : aa} {v0 v1 : PV} (r0 : aa.t.R x0 v0) (r1 : aa.t.R x1 v1) : FnR Tryz.prog 139 [v0, v1] (vi (kx x0 x1)) := by
 refine fnS (R := RF139) bj7 (fun _ h => h) rfl fun res z => ?_
 unfold kx at z
 refine sR (af (dw rfl (TR.cnt aa.t r0)) (af (dw rfl (TR.cnt aa.t r1)) (mI rfl (nR (fL rfl (aa.g_Header r0) rfl rfl (fL rfl (aa.g_Header r1) rfl rfl ?_))))))
 obtain ⟨a1, a3, z⟩ := br z
 have a6 := ai1 (x0 := x0.Header) (x1 := x1.Header)  
 rw [a3] at a6
 refine cL a6 rfl rfl (aj rfl (aj rfl bh)) (fL rfl (aa.g_Field r0) rfl rfl (fL rfl (aa.g_Field r1) rfl rfl ?_))
 obtain ⟨a0, a2, z⟩ := br z
 have a7 := ai1 (x0 := x0.Field) (x1 := x1.Field)  
 rw [a2] at a7
 refine cL a7 rfl rfl (aj rfl (aj rfl bh)) (af (v := .fs true [vi a1, vi a0]) (gb rfl (all_cons rfl (all_cons rfl ji))) ?_)
 have a4 : (tSl tI).R ([a1, a0] : List Int) (.fs true [vi a1, vi a0]) := pd ⟨rfl, ⟨rfl, trivial⟩⟩ (by simp)
 obtain ⟨a9, a5, z⟩ := br z
 have a8 := bj9  a4 
 rw [a5] at a8
 refine cL a8 rfl rfl (aj (TR.clo (tSl tI) a4) bh) (mV rfl (nS ?_))
 exact rR z rfl rfl rfl

def RF179 (res : Int) (r : PV) : Prop := r = vi res
theorem cg7 {x0 : aa} {x1 : aa} {v0 v1 : PV} (r0 : aa.t.R x0 v0) (r1 : aa.t.R x1 v1) : FnR Tryz.prog 179 [v0, v1] (vi (er x0 x1)) := by
 refine fnS (R := RF179) bj5 (fun _ h => h) rfl fun res z => ?_
 unfold er at z
 refine sR (af (dw rfl (TR.cnt aa.t r0)) (af (dw rfl (TR.cnt aa.t r1)) (mI rfl (nR (fL rfl (aa.g_Header r0) rfl rfl (fL rfl (aa.g_Header r1) rfl rfl ?_))))))
 obtain ⟨a1, a3, z⟩ := br z
 have a6 := ai1 (x0 := x0.Header) (x1 := x1.Header)  
 rw [a3] at a6
 refine cL a6 rfl rfl (aj rfl (aj rfl bh)) (fL rfl (aa.g_Field r0) rfl rfl (fL rfl (aa.g_Field r1) rfl rfl ?_))
 obtain ⟨a0, a2, z⟩ := br z
 have a7 := ai1 (x0 := x0.Field) (x1 := x1.Field)  
 rw [a2] at a7
 refine cL a7 rfl rfl (aj rfl (aj rfl bh)) (af (v := .fs true [vi a1, vi a0]) (gb rfl (all_cons rfl (all_cons rfl ji))) ?_)
 have a4 : (tSl tI).R ([a1, a0] : List Int) (.fs true [vi a1, vi a0]) := pd ⟨rfl, ⟨rfl, trivial⟩⟩ (by simp)
 obtain ⟨a9, a5, z⟩ := br z
 have a8 := bj9  a4 
 rw [a5] at a8
 refine cL a8 rfl rfl (aj (TR.clo (tSl tI) a4) bh) (mV rfl (nS ?_))
 exact rR z rfl rfl rfl

def RF138139 (a0 : PV) (R_ : List Ent) (res : List aa) (r : PV) (h : Heap) : Prop := ∃ es : List PV, Mem h (⟨a0, 87, 2, es⟩ :: R_) ∧ All2 aa.t.R res es ∧ res.length ≤ 4611686018427387904 ∧ Wri a0 es ∧ r = .tup []
theorem bf7 {x0 : List aa} {a0 : PV} {a1 : List PV} {R_ : List Ent} {h_ : Heap} (q : All2 aa.t.R x0 a1) (ne : isL a0 = true) (hl : x0.length ≤ 4611686018427387904) (wi : Wri a0 a1) (M : Mem h_ (⟨a0, 87, 2, a1⟩ :: R_)) (hb : x0.length ≤ 1000000) : ∃ r a2, FnX Tryz.prog 138 [a0, .fn (.func 139) [] []] h_ r a2 ∧ RF138139 a0 R_ (ko x0) r a2 := by
 obtain ⟨r, h2, X, es', M2, q2, w2, hr⟩ := ap6 (t := aa.t) (mk := frmk) (enc := frenc) (cf := kx) bk7.enters (fun x v h => h) (fun x => rfl) (fun x => rfl) (fun x => rfl) (fun x u hu => by simp [frenc] at hu; rcases hu with rfl | rfl <;> rfl) (fun x y => cs4 rfl rfl) (fun blk off cap d w hc hH hb hs => Go.Proofs.Tryz.sortF_calls frenc (fun x => rfl) (fun x u hu => by simp [frenc] at hu; rcases hu with rfl | rfl <;> rfl) kx dg2 cc0 139 bj7.enters blk off cap d w hc hH hb hs) (fun p cap w => Go.Proofs.Tryz.sortF_none p cap _ w) q ne hb wi M
 exact ⟨r, h2, X, es', M2, q2, by rw [ko, List.length_mergeSort]; exact hl, w2, hr⟩

def RF138179 (a0 : PV) (R_ : List Ent) (res : List aa) (r : PV) (h : Heap) : Prop := ∃ es : List PV, Mem h (⟨a0, 87, 2, es⟩ :: R_) ∧ All2 aa.t.R res es ∧ res.length ≤ 4611686018427387904 ∧ Wri a0 es ∧ r = .tup []
theorem bf6 {x0 : List aa} {a0 : PV} {a1 : List PV} {R_ : List Ent} {h_ : Heap} (q : All2 aa.t.R x0 a1) (ne : isL a0 = true) (hl : x0.length ≤ 4611686018427387904) (wi : Wri a0 a1) (M : Mem h_ (⟨a0, 87, 2, a1⟩ :: R_)) (hb : x0.length ≤ 1000000) : ∃ r a2, FnX Tryz.prog 138 [a0, .fn (.func 179) [] []] h_ r a2 ∧ RF138179 a0 R_ (fg x0) r a2 := by
 obtain ⟨r, h2, X, es', M2, q2, w2, hr⟩ := ap6 (t := aa.t) (mk := frmk) (enc := frenc) (cf := er) bk7.enters (fun x v h => h) (fun x => rfl) (fun x => rfl) (fun x => rfl) (fun x u hu => by simp [frenc] at hu; rcases hu with rfl | rfl <;> rfl) (fun x y => cg7 rfl rfl) (fun blk off cap d w hc hH hb hs => Go.Proofs.Tryz.sortF_calls frenc (fun x => rfl) (fun x u hu => by simp [frenc] at hu; rcases hu with rfl | rfl <;> rfl) er do7 cc7 179 bj5.enters blk off cap d w hc hH hb hs) (fun p cap w => Go.Proofs.Tryz.sortF_none p cap _ w) q ne hb wi M
 exact ⟨r, h2, X, es', M2, q2, by rw [fg, List.length_mergeSort]; exact hl, w2, hr⟩

theorem bl5 {x0 : List aa} {a0 : PV} {a1 : List PV} {R_ : List Ent} {h_ : Heap} (q : All2 aa.t.R x0 a1) (ne : isL a0 = true) (hl : x0.length ≤ 4611686018427387904) (wi : Wri a0 a1) (M : Mem h_ (⟨a0, 87, 2, a1⟩ :: R_)) : ∃ r a2, FnX Tryz.prog 142 [a0] h_ r a2 ∧ RF142 R_ (iw x0) r a2 := br8 q ne hl wi M

def RF66 (res : (List aa)) (r : PV) : Prop := (tSl aa.t).R res r
theorem ab9 {S : List Fr} {res : (List aa)} {x0 : List ah} {v0 : PV} (r0 : (tSl ah.t).R x0 v0) (hb : x0.length ≤ 1000) {K0 : (List aa) → (List aa)}
  (d1 : ∀ {zE102 : List aa} {a0 : List PV} {a1 : PV} (a4 : All2 aa.t.R zE102 a0) (a6 : isL a1 = true) (a2 : Wri a1 a0) (a5 : zE102.length ≤ 4611686018427387904) (d5 : zE102.length ≤ 1000) {h : Heap} (M0 : Mem h [⟨a1, 87, 2, a0⟩]), K0 zE102 = res → PX Tryz.prog 0 S (QR Tryz.prog [(2, none)] (RF66 res)) [(3, a1)] h) :
  ∀ {m : Nat} {a3 : Int} {zE102 : List aa} {a0 : List PV} {a1 : PV} (a4 : All2 aa.t.R zE102 a0) (a6 : isL a1 = true) (a2 : Wri a1 a0) (a5 : zE102.length ≤ 4611686018427387904) (d0 : m = Int.toNat ((x0.length : Int) - a3)) (b7 : 0 ≤ a3) (b0 : (zE102.length : Int) ≤ a3) (b1 : a3 ≤ (x0.length : Int)) {h : Heap} (M0 : Mem h [⟨a1, 87, 2, a0⟩]), iy x0 K0 m a3 zE102 = res → RC Tryz.prog (.loop ct6) S (QR Tryz.prog [(2, none)] (RF66 res)) [(8, vi a3), (7, vi (x0.length : Int)), (6, v0), (3, a1)] h := by
 have hb' := hb
 try simp only [qa] at hb'
 intro m
 induction m with
 | zero =>
  intro a3 zE102 a0 a1 a4 a6 a2 a5 d0 b7 b0 b1 h M0 z
  rw [iy] at z
  refine bv (sR (bN cn rfl rfl (nS (am ?_))))
  refine bp rfl ?_ ?_ <;> intro c <;> try simp only [qa] at c
  ·omega
  refine dg (dq (dc ?_))
  exact wP (d1 a4 a6 a2 a5 (by omega) (Mem.sub M0 (.cons_cons _ .slnil)) z) rfl
 | succ m ih =>
  intro a3 zE102 a0 a1 a4 a6 a2 a5 d0 b7 b0 b1 h M0 z
  rw [iy] at z
  refine bv (sR (bN cn rfl rfl (nS (am ?_))))
  refine bp rfl ?_ ?_ <;> intro c <;> try simp only [qa] at c
  rotate_left
  ·omega
  refine ax (ap (am (bf (sR ?_))))
  obtain ⟨b8, c9, a8⟩ := de (i := a3) r0 (by omega) (by omega)
  refine af (bd rfl rfl c9) (lD a8 rfl rfl rfl ?_)
  refine fa (x := .agg [vi 0, vi 0, vi 0]) M0 rfl rfl (fun c6 c7 d4 c5 => ?_)
  refine ek (k := 0) (v := b8) c5 rfl rfl rfl (TR.cnt ah.t a8) (fun b4 a7 => ?_)
  replace a7 : Mem b4 [⟨.op c6 c7 0, 113, 3, [b8]⟩, ⟨a1, 87, 2, a0⟩] := a7
  refine nR (af (bg rfl) (af (cg (k := 0) a7 rfl rfl (ah.g_Op a8)) (bN dt rfl rfl (nS ?_))))
  refine cd z rfl ?_ ?_ <;> clear z <;> intro c z <;> try simp only [qa] at c
  ·refine av (mV rfl (af (bg rfl) (af (cg (k := 0) a7 rfl rfl (ah.g_N a8)) (af (bg rfl) (af (cg (k := 0) a7 rfl rfl (ah.g_W a8)) (af (v := .agg [vi ((ix x0 a3).N), vi ((ix x0 a3).W)]) (mr (cs := [vi ((ix x0 a3).N), vi ((ix x0 a3).W)]) rfl rfl) (af (v := .fs true [.agg [vi ((ix x0 a3).N), vi ((ix x0 a3).W)]]) (gb rfl (all_cons rfl ji)) ?_)))))))
   have c8 : (tSl aa.t).R ([({ Header := (ix x0 a3).N, Field := (ix x0 a3).W } : aa)] : List aa) (.fs true [.agg [vi ((ix x0 a3).N), vi ((ix x0 a3).W)]]) := pd ⟨rfl, trivial⟩ (by simp)
   obtain ⟨a9, b3, b2⟩ := ly (t := aa.t) (h := b4) c8
   have b9 : fits (a0.length + a9.length) 16 = true := by rw [All2.length_eq a4, All2.length_eq b2]; (try simp only [List.length_cons, List.length_nil]); exact iq (by omega) (by omega)
   refine jt (k := 1) (es := a0) (news := a9) a7 rfl rfl rfl a6 a2 b3 b9 (fun d3 d2 c3 b6 c4 => ?_)
   have b5 : All2 aa.t.R (zE102 ++ ([({ Header := (ix x0 a3).N, Field := (ix x0 a3).W } : aa)] : List aa)) (a0 ++ a9) := All2.app a4 b2
   have c2 : (zE102 ++ ([({ Header := (ix x0 a3).N, Field := (ix x0 a3).W } : aa)] : List aa)).length ≤ 4611686018427387904 := by rw [← All2.length_eq b5, List.length_append]; exact gg b9
   refine mV rfl (bn (cy (ap (av (bN dp rfl rfl (mV rfl (bn (cv ?_))))))))
   have s := da r0
   have o : wr (a3 + 1) = a3 + 1 := dj (by omega) (by omega)
   erw [o]
   exact wC (ih  b5 c3 b6 c2 (by omega) (by omega) (by ((simp only [List.length_append, List.length_cons, List.length_nil]; omega))) (by omega) (Mem.sub c4 (.cons _ (.cons_cons _ .slnil))) z) rfl
  ·refine ax (cy (ap (av (bN dp rfl rfl (mV rfl (bn (cv ?_)))))))
   have s := da r0
   have o : wr (a3 + 1) = a3 + 1 := dj (by omega) (by omega)
   erw [o]
   exact wC (ih  a4 a6 a2 a5 (by omega) (by omega) (by omega) (by omega) (Mem.sub a7 (.cons _ (.cons_cons _ .slnil))) z) rfl

theorem ca8 {x0 : List ah} {v0 : PV} (r0 : (tSl ah.t).R x0 v0) (hb : x0.length ≤ 1000) : ∃ r, FnR Tryz.prog 66 [v0] r ∧ (tSl aa.t).R (ll x0) r := by
 refine fnT (R := RF66) dl0 rfl fun res z => ?_
 unfold ll at z
 refine sR (af (v := nilS) (ay rfl) (nR (af (v := nilS) (ay rfl) (nS (am (sR (mV rfl (af (cp rfl (ca r0 Tryz.underlying32 _)) ?_))))))))
 refine mI rfl (nS (bf ?_))
 have d3 := ou (sz := 2) (es := []) (Mem.nil ⟨0, []⟩) 87 (.inl ⟨none, rfl, rfl⟩) (by simp)
 refine wC (ab9 r0 hb ?_  aL rfl (.inl rfl) (by decide) rfl (by omega) (by simp) (by omega) (Mem.sub d3 (.cons_cons _ .slnil)) z) rfl
 ·intro a4 a2 a0 a7 a1 a5 a3 c6 d2 d4 z
  refine dy (ap (am (fc (cw (mV rfl (cx ?_))))))
  have d5 : Mem d2 [⟨a0, 87, 2, a2⟩] := (Mem.front (k := 0) d4 rfl)
  obtain ⟨d8, b8, z⟩ := br z
  obtain ⟨e0, d1, c2, b7⟩ := bf7 (x0 := a4) a7 a1 a3 a5 d5 (by omega)
  rw [b8] at b7
  obtain ⟨b0, d7, a8, b1, b2, a6⟩ := b7
  replace a6 := a6.symm; subst a6
  refine gu rfl rfl c2 (kn (ap (am (fc (cw (mV rfl (cx ?_)))))))
  have c8 : Mem d1 [⟨a0, 87, 2, b0⟩] := (Mem.front (k := 0) d7 rfl)
  obtain ⟨e3, c3, z⟩ := br z
  obtain ⟨d9, e1, b9, b6⟩ := bl5 (x0 := d8) a8 a1 b1 b2 c8 
  rw [c3] at b6
  obtain ⟨c5, c7, d6, b3, b5, b4, c4, a9⟩ := b6
  replace a9 := a9.symm; subst a9
  refine gu rfl rfl b9 (cw (mV rfl (cx (kn (ap ?_)))))
  obtain ⟨e2, d0, c9⟩ := qc (P := Tryz.prog) (k := 0) (t := aa.t) d6 rfl b5 b3 (Nat.le_trans b4 (by decide))
  subst z
  exact gi (.tmp rfl .nil) d0 c9

def RF143 (a0 : PV) (R_ : List Ent) (res : List Int) (r : PV) (h : Heap) : Prop := ∃ es : List PV, Mem h (⟨a0, 3, 1, es⟩ :: R_) ∧ All2 tI.R res es ∧ res.length ≤ 4611686018427387904 ∧ Wri a0 es ∧ r = .tup []
theorem ah5 {x0 : List Int} {a0 : PV} {a1 : List PV} {R_ : List Ent} {h_ : Heap} (q : All2 tI.R x0 a1) (ne : isL a0 = true) (hl : x0.length ≤ 4611686018427387904) (wi : Wri a0 a1) (M : Mem h_ (⟨a0, 3, 1, a1⟩ :: R_)) (hb : x0.length ≤ 1000000) : ∃ r a2, FnX Tryz.prog 143 [a0] h_ r a2 ∧ RF143 a0 R_ (dx x0) r a2 := by
 obtain ⟨r, h2, X, es', M2, q2, w2, hr⟩ := bg9 cq2.enters Go.Proofs.Tryz.sortI_calls Go.Proofs.Tryz.sortI_none q ne hb wi M
 exact ⟨r, h2, X, es', M2, q2, by rw [dx, List.length_mergeSort]; exact hl, w2, hr⟩

theorem ai5 {x0 : List Int} {a0 : PV} {a1 : List PV} {R_ : List Ent} {h_ : Heap} (q : All2 tI.R x0 a1) (ne : isL a0 = true) (hl : x0.length ≤ 4611686018427387904) (wi : Wri a0 a1) (M : Mem h_ (⟨a0, 3, 1, a1⟩ :: R_)) : ∃ r a2, FnX Tryz.prog 144 [a0] h_ r a2 ∧ RF144 R_ (jy x0) r a2 := cc8 q ne hl wi M

def RF67 (res : (List Int)) (r : PV) : Prop := (tSl tI).R res r
theorem zb {S : List Fr} {res : (List Int)} {x0 : List ah} {v0 : PV} (r0 : (tSl ah.t).R x0 v0) (hb : x0.length ≤ 1000) {K0 : (List Int) → (List Int)}
  (d1 : ∀ {zE102 : List Int} {a0 : List PV} {a1 : PV} (a3 : All2 tI.R zE102 a0) (a5 : isL a1 = true) (a2 : Wri a1 a0) (a4 : zE102.length ≤ 4611686018427387904) (d5 : zE102.length ≤ 1000) {h : Heap} (M0 : Mem h [⟨a1, 3, 1, a0⟩]), K0 zE102 = res → PX Tryz.prog 0 S (QR Tryz.prog [(2, none)] (RF67 res)) [(3, a1)] h) :
  ∀ {m : Nat} {a6 : Int} {zE102 : List Int} {a0 : List PV} {a1 : PV} (a3 : All2 tI.R zE102 a0) (a5 : isL a1 = true) (a2 : Wri a1 a0) (a4 : zE102.length ≤ 4611686018427387904) (d0 : m = Int.toNat ((x0.length : Int) - a6)) (b7 : 0 ≤ a6) (b0 : (zE102.length : Int) ≤ a6) (b1 : a6 ≤ (x0.length : Int)) {h : Heap} (M0 : Mem h [⟨a1, 3, 1, a0⟩]), im x0 K0 m a6 zE102 = res → RC Tryz.prog (.loop cv0) S (QR Tryz.prog [(2, none)] (RF67 res)) [(8, vi a6), (7, vi (x0.length : Int)), (6, v0), (3, a1)] h := by
 have hb' := hb
 try simp only [qa] at hb'
 intro m
 induction m with
 | zero =>
  intro a6 zE102 a0 a1 a3 a5 a2 a4 d0 b7 b0 b1 h M0 z
  rw [im] at z
  refine bv (sR (bN cn rfl rfl (nS (am ?_))))
  refine bp rfl ?_ ?_ <;> intro c <;> try simp only [qa] at c
  ·omega
  refine dg (dq (dc ?_))
  exact wP (d1 a3 a5 a2 a4 (by omega) (Mem.sub M0 (.cons_cons _ .slnil)) z) rfl
 | succ m ih =>
  intro a6 zE102 a0 a1 a3 a5 a2 a4 d0 b7 b0 b1 h M0 z
  rw [im] at z
  refine bv (sR (bN cn rfl rfl (nS (am ?_))))
  refine bp rfl ?_ ?_ <;> intro c <;> try simp only [qa] at c
  rotate_left
  ·omega
  refine ax (ap (am (bf (sR ?_))))
  obtain ⟨b8, c9, a9⟩ := de (i := a6) r0 (by omega) (by omega)
  refine af (bd rfl rfl c9) (lD a9 rfl rfl rfl ?_)
  refine fa (x := .agg [vi 0, vi 0, vi 0]) M0 rfl rfl (fun c6 c7 d4 c5 => ?_)
  refine ek (k := 0) (v := b8) c5 rfl rfl rfl (TR.cnt ah.t a9) (fun b4 a7 => ?_)
  replace a7 : Mem b4 [⟨.op c6 c7 0, 113, 3, [b8]⟩, ⟨a1, 3, 1, a0⟩] := a7
  refine nR (af (bg rfl) (af (cg (k := 0) a7 rfl rfl (ah.g_Op a9)) (bN dt rfl rfl (nS ?_))))
  refine cd z rfl ?_ ?_ <;> clear z <;> intro c z <;> try simp only [qa] at c
  ·refine av (mV rfl (af (bg rfl) (af (cg (k := 0) a7 rfl rfl (ah.g_N a9)) (af (v := .fs true [vi ((ix x0 a6).N)]) (gb rfl (all_cons rfl ji)) ?_))))
   have c8 : (tSl tI).R ([(ix x0 a6).N] : List Int) (.fs true [vi ((ix x0 a6).N)]) := pd ⟨rfl, trivial⟩ (by simp)
   obtain ⟨a8, b3, b2⟩ := ly (t := tI) (h := b4) c8
   have b9 : fits (a0.length + a8.length) 8 = true := by rw [All2.length_eq a3, All2.length_eq b2]; (try simp only [List.length_cons, List.length_nil]); exact iq (by omega) (by omega)
   refine jt (k := 1) (es := a0) (news := a8) a7 rfl rfl rfl a5 a2 b3 b9 (fun d3 d2 c3 b6 c4 => ?_)
   have b5 : All2 tI.R (zE102 ++ ([(ix x0 a6).N] : List Int)) (a0 ++ a8) := All2.app a3 b2
   have c2 : (zE102 ++ ([(ix x0 a6).N] : List Int)).length ≤ 4611686018427387904 := by rw [← All2.length_eq b5, List.length_append]; exact gg b9
   refine mV rfl (bn (cy (ap (av (bN dp rfl rfl (mV rfl (bn (cv ?_))))))))
   have s := da r0
   have o : wr (a6 + 1) = a6 + 1 := dj (by omega) (by omega)
   erw [o]
   exact wC (ih  b5 c3 b6 c2 (by omega) (by omega) (by ((simp only [List.length_append, List.length_cons, List.length_nil]; omega))) (by omega) (Mem.sub c4 (.cons _ (.cons_cons _ .slnil))) z) rfl
  ·refine ax (cy (ap (av (bN dp rfl rfl (mV rfl (bn (cv ?_)))))))
   have s := da r0
   have o : wr (a6 + 1) = a6 + 1 := dj (by omega) (by omega)
   erw [o]
   exact wC (ih  a3 a5 a2 a4 (by omega) (by omega) (by omega) (by omega) (Mem.sub a7 (.cons _ (.cons_cons _ .slnil))) z) rfl

theorem cf8 {x0 : List ah} {v0 : PV} (r0 : (tSl ah.t).R x0 v0) (hb : x0.length ≤ 1000) : ∃ r, FnR Tryz.prog 67 [v0] r ∧ (tSl tI).R (ki x0) r := by
 refine fnT (R := RF67) di3 rfl fun res z => ?_
 unfold ki at z
 refine sR (af (v := nilS) (ay rfl) (nR (af (v := nilS) (ay rfl) (nS (am (sR (mV rfl (af (cp rfl (ca r0 Tryz.underlying32 _)) ?_))))))))
 refine mI rfl (nS (bf ?_))
 have d3 := ou (sz := 1) (es := []) (Mem.nil ⟨0, []⟩) 3 (.inl ⟨none, rfl, rfl⟩) (by simp)
 refine wC (zb r0 hb ?_  aL rfl (.inl rfl) (by decide) rfl (by omega) (by simp) (by omega) (Mem.sub d3 (.cons_cons _ .slnil)) z) rfl
 ·intro a4 a2 a0 a7 a1 a5 a3 c6 d2 d4 z
  refine dy (ap (am (fc (cw (mV rfl (cx ?_))))))
  have d5 : Mem d2 [⟨a0, 3, 1, a2⟩] := (Mem.front (k := 0) d4 rfl)
  obtain ⟨d8, b8, z⟩ := br z
  obtain ⟨e0, d1, c2, b7⟩ := ah5 (x0 := a4) a7 a1 a3 a5 d5 (by omega)
  rw [b8] at b7
  obtain ⟨b0, d7, a8, b1, b2, a6⟩ := b7
  replace a6 := a6.symm; subst a6
  refine gu rfl rfl c2 (kn (ap (am (fc (cw (mV rfl (cx ?_)))))))
  have c8 : Mem d1 [⟨a0, 3, 1, b0⟩] := (Mem.front (k := 0) d7 rfl)
  obtain ⟨e3, c3, z⟩ := br z
  obtain ⟨d9, e1, b9, b6⟩ := ai5 (x0 := d8) a8 a1 b1 b2 c8 
  rw [c3] at b6
  obtain ⟨c5, c7, d6, b3, b5, b4, c4, a9⟩ := b6
  replace a9 := a9.symm; subst a9
  refine gu rfl rfl b9 (cw (mV rfl (cx (kn (ap ?_)))))
  obtain ⟨e2, d0, c9⟩ := qc (P := Tryz.prog) (k := 0) (t := tI) d6 rfl b5 b3 (Nat.le_trans b4 (by decide))
  subst z
  exact gi (.tmp rfl .nil) d0 c9

def RF137 (i1_ w1_ : Nat) (R_ : List Ent) (res : ak) (r : PV) (h : Heap) : Prop := ∃ uF0H : PV, ∃ uF0M : PV, ∃ uF0R : PV, ∃ uF0A : PV, ∃ uF0T : PV, ∃ uF0S : PV, ∃ uF0C : PV, ∃ uF0D : PV, ∃ aF0_8 : PV, ∃ esF0_8 : List PV, Mem h (⟨.op i1_ w1_ 0, 118, 10, [.agg [vs res.p.Name, uF0H, uF0M, uF0R, uF0A, uF0T, uF0S, uF0C, uF0D, aF0_8]]⟩ :: ⟨aF0_8, 3, 1, esF0_8⟩ :: R_) ∧ ((tSl bz.t).R res.p.Headers uF0H) ∧ ((tSl az.t).R res.p.Metadata uF0M) ∧ ((tSl cq.t).R res.p.Registers uF0R) ∧ ((tSl bm.t).R res.p.Actions uF0A) ∧ ((tSl bw.t).R res.p.Tables uF0T) ∧ ((tSl bt.t).R res.p.States uF0S) ∧ ((tSl aw.t).R res.p.Control uF0C) ∧ ((tSl tI).R res.p.Deparser uF0D) ∧ (All2 tI.R res.cells esF0_8) ∧ (isL aF0_8 = true) ∧ (res.cells.length ≤ 4611686018427387904) ∧ (Wri aF0_8 esF0_8) ∧ r = .tup []
theorem av3 {x0 : Int} {c0 : ak} {a4 a2 a0 a3 a7 a6 a5 a1 b7 : PV} {a8 : List PV} {R_ : List Ent} {h_ : Heap} {c6 c8 : Nat} (b2 : (tSl bz.t).R c0.p.Headers a4) (b1 : (tSl az.t).R c0.p.Metadata a2) (a9 : (tSl cq.t).R c0.p.Registers a0) (b4 : (tSl bm.t).R c0.p.Actions a3) (b5 : (tSl bw.t).R c0.p.Tables a7) (b6 : (tSl bt.t).R c0.p.States a6) (b3 : (tSl aw.t).R c0.p.Control a5) (b0 : (tSl tI).R c0.p.Deparser a1) (c2 : All2 tI.R c0.cells a8) (b9 : isL b7 = true) (c9 : c0.cells.length ≤ 4611686018427387904) (c4 : Wri b7 a8) (M_ : Mem h_ (⟨.op c6 c8 0, 118, 10, [.agg [vs c0.p.Name, a4, a2, a0, a3, a7, a6, a5, a1, b7]]⟩ :: ⟨b7, 3, 1, a8⟩ :: R_)) (hb : c0.cells.length ≤ 1000000) : ∃ r e1, FnX Tryz.prog 137 [vi x0, .fp (.op c6 c8 0)] h_ r e1 ∧ RF137 c6 c8 R_ (fu x0 c0) r e1 := by
 refine fnXX (R := RF137 c6 c8 R_) cv3 rfl fun res z => ?_
 unfold fu at z
 refine sR (mV rfl (bN kj rfl rfl (nS ?_)))
 refine cd z rfl ?_ ?_ <;> clear z <;> intro c z <;> try simp only [qa] at c
 ·refine av (lR rfl rfl rfl (lR rfl rfl rfl (af (ir rfl rfl) (af (bg rfl) (af (cg (k := 0) M_ rfl rfl (mk1 (gn (k := 1) M_ rfl b9).2)) (mV rfl (af (v := .fs true [vi x0]) (gb rfl (all_cons rfl ji)) ?_)))))))
  have e0 : (tSl tI).R ([x0] : List Int) (.fs true [vi x0]) := pd ⟨rfl, trivial⟩ (by simp)
  obtain ⟨b8, d1, c5⟩ := ly (t := tI) (h := h_) e0
  have d8 : fits (a8.length + b8.length) 8 = true := by rw [All2.length_eq c2, All2.length_eq c5]; (try simp only [List.length_cons, List.length_nil]); exact iq (by omega) (by omega)
  refine jt (k := 1) (es := a8) (news := b8) M_ rfl rfl rfl b9 c4 d1 d8 (fun c3 e2 d9 d5 d6 => ?_)
  have d4 : All2 tI.R (c0.cells ++ ([x0] : List Int)) (a8 ++ b8) := All2.app c2 c5
  have d2 : (c0.cells ++ ([x0] : List Int)).length ≤ 4611686018427387904 := by rw [← All2.length_eq d4, List.length_append]; exact gg d8
  refine af (ir rfl rfl) (af (bg rfl) ?_)
  refine jh (k := 0) (v := c3) d6 rfl rfl rfl (gn (k := 1) d6 rfl d9).1 rfl (by ((simp only [List.length_cons, List.length_nil]; omega))) (fun d7 c7 => ?_)
  replace c7 : Mem d7 (⟨.op c6 c8 0, 118, 10, [.agg [vs c0.p.Name, a4, a2, a0, a3, a7, a6, a5, a1, c3]]⟩ :: ⟨c3, 3, 1, (a8 ++ b8)⟩ :: R_) := c7
  refine bn ?_
  have d0 : Mem d7 (⟨.op c6 c8 0, 118, 10, [.agg [vs c0.p.Name, a4, a2, a0, a3, a7, a6, a5, a1, c3]]⟩ :: ⟨c3, 3, 1, (a8 ++ b8)⟩ :: R_) := (Mem.front (k := 1) (Mem.front (k := 1) c7 rfl) rfl)
  subst z
  exact ah9 .nil ⟨a4, a2, a0, a3, a7, a6, a5, a1, c3, (a8 ++ b8), Mem.sub d0 (.cons_cons _ (.cons_cons _ (List.Sublist.refl R_))), b2, b1, a9, b4, b5, b6, b3, b0, d4, d9, d2, d5, rfl⟩
 ·refine ax ?_
  have d3 : Mem h_ (⟨.op c6 c8 0, 118, 10, [.agg [vs c0.p.Name, a4, a2, a0, a3, a7, a6, a5, a1, b7]]⟩ :: ⟨b7, 3, 1, a8⟩ :: R_) := (Mem.front (k := 1) (Mem.front (k := 1) M_ rfl) rfl)
  subst z
  exact ah9 .nil ⟨a4, a2, a0, a3, a7, a6, a5, a1, b7, a8, Mem.sub d3 (.cons_cons _ (.cons_cons _ (List.Sublist.refl R_))), b2, b1, a9, b4, b5, b6, b3, b0, c2, b9, c9, c4, rfl⟩

def RF163 (res : (List Int)) (r : PV) : Prop := (tAr 4 tI).R res r
theorem xg {S : List Fr} {res : (List Int)} {x0 : ae} {c6 : PV} {a7 a6 a5 a4 : Nat} (c7 : (tSl bz.t).R x0.Headers c6) {K0 : (List Int) → (List Int)}
  (d8 : ∀ {a0 : List Int} {a2 : PV} (a3 : (tAr 4 tI).R a0 a2) {h : Heap} (M0 : Mem h [⟨.op a5 a4 0, 210, 4, [a2]⟩, ⟨.op a7 a6 0, 210, 4, [.agg [vi 0, vi 0, vi 0, vi 0]]⟩]), K0 a0 = res → PX Tryz.prog 0 S (QR Tryz.prog [(2, some (4, true))] (RF163 res)) [(2, .op a7 a6 0), (3, .op a5 a4 0)] h) :
  ∀ {m : Nat} {a1 : Int} {a0 : List Int} {a2 : PV} (a3 : (tAr 4 tI).R a0 a2) (d6 : m = Int.toNat ((x0.Headers.length : Int) - a1)) (c4 : 0 ≤ a1) {h : Heap} (M0 : Mem h [⟨.op a5 a4 0, 210, 4, [a2]⟩, ⟨.op a7 a6 0, 210, 4, [.agg [vi 0, vi 0, vi 0, vi 0]]⟩]), kr x0 K0 m a1 a0 = res → RC Tryz.prog (.loop bz7) S (QR Tryz.prog [(2, some (4, true))] (RF163 res)) [(19, vi a1), (18, vi (x0.Headers.length : Int)), (17, c6), (3, .op a5 a4 0), (2, .op a7 a6 0)] h := by
 intro m
 induction m with
 | zero =>
  intro a1 a0 a2 a3 d6 c4 h M0 z
  rw [kr] at z
  refine bv (sR (bN cn rfl rfl (nS (am ?_))))
  refine bp rfl ?_ ?_ <;> intro c <;> try simp only [qa] at c
  ·omega
  refine dg (dq (dc ?_))
  exact wP (d8 a3 (Mem.sub M0 (.cons_cons _ (.cons_cons _ .slnil))) z) rfl
 | succ m ih =>
  intro a1 a0 a2 a3 d6 c4 h M0 z
  rw [kr] at z
  refine bv (sR (bN cn rfl rfl (nS (am ?_))))
  refine bp rfl ?_ ?_ <;> intro c <;> try simp only [qa] at c
  rotate_left
  ·omega
  refine ax (ap (am (bf (sR ?_))))
  obtain ⟨b4, d5, b6⟩ := de (i := a1) c7 (by omega) (by omega)
  refine af (bd rfl rfl d5) (lD b6 rfl rfl rfl ?_)
  refine fa (x := .agg [vs [], nilS]) M0 rfl rfl (fun c3 b9 d7 c8 => ?_)
  refine ek (k := 0) (v := b4) c8 rfl rfl rfl (TR.cnt bz.t b6) (fun c9 b2 => ?_)
  replace b2 : Mem c9 [⟨.op c3 b9 0, 92, 2, [b4]⟩, ⟨.op a5 a4 0, 210, 4, [a2]⟩, ⟨.op a7 a6 0, 210, 4, [.agg [vi 0, vi 0, vi 0, vi 0]]⟩] := b2
  refine nS (av ?_)
  have a8 : 0 ≤ (0 : Int) := by omega
  have b1 : (0 : Int) < 4 := by omega
  refine af (yn rfl rfl a8 b1) ?_
  obtain ⟨d1, d3, b7⟩ := cd2 (t := tI) (i := (0 : Int)) a3 a8 b1
  have b7 : d1 = vi (ix a0 (0 : Int)) := b7; subst b7
  refine af (cg (k := 1) b2 rfl rfl d3) (af (bg rfl) ?_)
  obtain ⟨d9, d4, d2⟩ := bz.g_Fields b6
  refine af (cg (k := 0) b2 rfl rfl d4) (af (cp rfl (ca d2 Tryz.underlying23 _)) (bN dp rfl rfl ?_))
  have a9 : 0 ≤ (0 : Int) := by omega
  have b0 : (0 : Int) < 4 := by omega
  refine af (yn rfl rfl a9 b0) ?_
  obtain ⟨b8, c2, b3, c5⟩ := ao8 (t := tI) (i := (0 : Int)) a3 a9 b0 (show tI.R (wr ((ix a0 (0 : Int)) + (((ix x0.Headers a1).Fields).length : Int))) (vi (wr ((ix a0 (0 : Int)) + (((ix x0.Headers a1).Fields).length : Int)))) from rfl) rfl
  refine aj3 (k := 1) (v := vi (wr ((ix a0 (0 : Int)) + (((ix x0.Headers a1).Fields).length : Int)))) b2 rfl rfl rfl c2 rfl b3.1 b3.2 (fun d0 b5 => ?_)
  replace b5 : Mem d0 [⟨.op c3 b9 0, 92, 2, [b4]⟩, ⟨.op a5 a4 0, 210, 4, [.agg (spl b8 ((0 : Int).toNat * 1) [vi (wr ((ix a0 (0 : Int)) + (((ix x0.Headers a1).Fields).length : Int)))])]⟩, ⟨.op a7 a6 0, 210, 4, [.agg [vi 0, vi 0, vi 0, vi 0]]⟩] := b5
  refine bn (cy (ap (av (bN dp rfl rfl (mV rfl (bn (cv ?_)))))))
  have s := da c7
  have o : wr (a1 + 1) = a1 + 1 := dj (by omega) (by omega)
  erw [o]
  exact wC (ih  c5 (by omega) (by omega) (Mem.sub b5 (.cons _ (.cons_cons _ (.cons_cons _ .slnil)))) z) rfl

theorem bk4 {x0 : ae} {v0 : PV} (r0 : ae.t.R x0 v0) : ∃ r, FnR Tryz.prog 163 [v0] r ∧ (tAr 4 tI).R (mi x0) r := by
 refine fnT (R := RF163) cs0 rfl fun res z => ?_
 unfold mi at z
 refine sR (af (dw rfl (TR.cnt ae.t r0)) ?_)
 refine fa (x := .agg [vi 0, vi 0, vi 0, vi 0]) (Mem.nil ⟨0, []⟩) rfl rfl (fun b3 b0 c6 b8 => ?_)
 refine nR (gL (ae.g_Headers r0) rfl rfl rfl fun c7 b7 => (af (cp rfl (ca b7 Tryz.underlying22 _)) ?_))
 obtain ⟨c4, b9, a9⟩ := ae.g_Metadata r0
 refine fA rfl b9 (lD a9 rfl rfl rfl (af (cp rfl (ca a9 Tryz.underlying23 _)) ?_))
 obtain ⟨c5, c2, b1⟩ := ae.g_Registers r0
 refine fA rfl c2 (lD b1 rfl rfl rfl (af (cp rfl (ca b1 Tryz.underlying24 _)) ?_))
 have a8 : (tAr 4 tI).R ([0, (x0.Headers.length : Int), (x0.Metadata.length : Int), (x0.Registers.length : Int)] : List Int) (.agg [vi 0, vi (x0.Headers.length : Int), vi (x0.Metadata.length : Int), vi (x0.Registers.length : Int)]) := ⟨rfl, [vi 0, vi (x0.Headers.length : Int), vi (x0.Metadata.length : Int), vi (x0.Registers.length : Int)], [vi 0, vi (x0.Headers.length : Int), vi (x0.Metadata.length : Int), vi (x0.Registers.length : Int)], ⟨rfl, ⟨rfl, ⟨rfl, ⟨rfl, trivial⟩⟩⟩⟩, rfl, rfl⟩
 refine af (v := .agg [vi 0, vi (x0.Headers.length : Int), vi (x0.Metadata.length : Int), vi (x0.Registers.length : Int)]) (mr (cs := [vi 0, vi (x0.Headers.length : Int), vi (x0.Metadata.length : Int), vi (x0.Registers.length : Int)]) rfl rfl) ?_
 refine fa (x := .agg [vi 0, vi 0, vi 0, vi 0]) b8 rfl rfl (fun a7 a6 c9 b4 => ?_)
 refine ek (k := 0) (v := .agg [vi 0, vi (x0.Headers.length : Int), vi (x0.Metadata.length : Int), vi (x0.Registers.length : Int)]) b4 rfl rfl rfl (TR.cnt (tAr 4 tI) a8) (fun b5 a2 => ?_)
 replace a2 : Mem b5 [⟨.op a7 a6 0, 210, 4, [.agg [vi 0, vi (x0.Headers.length : Int), vi (x0.Metadata.length : Int), vi (x0.Registers.length : Int)]]⟩, ⟨.op b3 b0 0, 210, 4, [.agg [vi 0, vi 0, vi 0, vi 0]]⟩] := a2
 refine nS (am (sR (gL (ae.g_Headers r0) rfl rfl rfl fun c8 b2 => (af (cp rfl (ca b2 Tryz.underlying22 _)) (mI rfl (nS (bf ?_)))))))
 have c3 : (tAr 4 tI).R ([0, 0, 0, 0] : List Int) (.agg [vi 0, vi 0, vi 0, vi 0]) := ⟨rfl, [vi 0, vi 0, vi 0, vi 0], [vi 0, vi 0, vi 0, vi 0], ⟨rfl, ⟨rfl, ⟨rfl, ⟨rfl, trivial⟩⟩⟩⟩, rfl, rfl⟩
 refine wC (xg b2 ?_  a8 rfl (by omega) (Mem.sub a2 (.cons_cons _ (.cons_cons _ .slnil))) z) rfl
 ·intro a4 a1 a0 d0 a5 z
  refine dy (ap (sR (af (pw (k := 0) a5 rfl rfl (TR.agg (tAr 4 tI) a0)) ?_)))
  refine ek (k := 1) (v := a1) a5 rfl rfl rfl (TR.cnt (tAr 4 tI) a0) (fun b6 a3 => ?_)
  replace a3 : Mem b6 [⟨.op a7 a6 0, 210, 4, [a1]⟩, ⟨.op b3 b0 0, 210, 4, [a1]⟩] := a3
  refine nS ?_
  subst z
  exact gi (.cell rfl (pt (k := 1) a3 rfl (TR.agg (tAr 4 tI) a0)) .nil) (eh (TR.clo (tAr 4 tI) a0)) a0

def RF135 (res : Int) (r : PV) : Prop := r = vi res
theorem yz {S : List Fr} {res : Int} {x0 : ae} {x1 : Int} {a1 : (List Int)} {a4 : PV} (b0 : mi x0 = a1) (a6 : (tAr 4 tI).R a1 a4) {K0 : Int → Int}
  (b1 : ∀ {a2 : Int}, K0 a2 = res → PX Tryz.prog 0 S (QR Tryz.prog [(4, none)] (RF135 res)) [(5, vi a2)] ⟨0, []⟩) :
  ∀ {m : Nat} {a2 a0 : Int} (a9 : m = Int.toNat (4 - a0)) (a5 : 0 ≤ a0), lk x1 a1 K0 m a2 a0 = res → RC Tryz.prog (.loop bx9) S (QR Tryz.prog [(4, none)] (RF135 res)) [(10, vi a0), (9, a4), (5, vi a2), (1, vi x1)] ⟨0, []⟩ := by
 intro m
 induction m with
 | zero =>
  intro a2 a0 a9 a5 z
  rw [lk] at z
  refine bv (sR (bN cn rfl rfl (nS (am ?_))))
  refine bp rfl ?_ ?_ <;> intro c <;> try simp only [qa] at c
  ·omega
  refine dg (dq (dc ?_))
  exact wP (b1  z) rfl
 | succ m ih =>
  intro a2 a0 a9 a5 z
  rw [lk] at z
  refine bv (sR (bN cn rfl rfl (nS (am ?_))))
  refine bp rfl ?_ ?_ <;> intro c <;> try simp only [qa] at c
  rotate_left
  ·omega
  refine ax (ap (am (bf (sR (mV rfl ?_)))))
  obtain ⟨a7, a8, a3⟩ := bm8 (t := tI) a6 (i := a0) (by omega) (by omega)
  have a3 : a7 = vi (ix a1 a0) := a3; subst a3
  refine af (aq2 rfl rfl a8) (mV rfl (mV rfl (nR (mV rfl (mV rfl (bN cn rfl rfl (nS ?_)))))))
  refine cd z rfl ?_ ?_ <;> clear z <;> intro c z <;> try simp only [qa] at c
  ·refine av (mV rfl (mV rfl (bN dp rfl rfl (mV rfl (bn (cy (ap (av ?_))))))))
   refine bN dp rfl rfl (mV rfl (bn (cv ?_)))
   have o : wr (a0 + 1) = a0 + 1 := dj (by omega) (by omega)
   erw [o]
   exact wC (ih   (by omega) (by omega) z) rfl
  ·refine ax (cy (ap (av (bN dp rfl rfl (mV rfl (bn (cv ?_)))))))
   have o : wr (a0 + 1) = a0 + 1 := dj (by omega) (by omega)
   erw [o]
   exact wC (ih   (by omega) (by omega) z) rfl

theorem cs9 {x0 : ae} {x1 : Int} {v0 : PV} (r0 : ae.t.R x0 v0) : FnR Tryz.prog 135 [v0, vi x1] (vi (oo x0 x1)) := by
 refine fnS (R := RF135) cl9 (fun _ h => h) rfl fun res z => ?_
 unfold oo at z
 refine sR (af (dw rfl (TR.cnt ae.t r0)) (mI rfl (nR (mI rfl (nS (am (sR (lD r0 rfl rfl rfl ?_))))))))
 obtain ⟨a4, a0, z⟩ := br z
 obtain ⟨a5, a3, a1⟩ := bk4  r0 
 rw [a0] at a1
 refine cL a3 rfl rfl (aj (TR.clo ae.t r0) bh) (mI rfl (nS (bf ?_)))
 refine wC (yz a0 a1 ?_  rfl (by omega) z) rfl
 ·intro a2 z
  refine dy (ap (sR (mV rfl (mV rfl (nS ?_)))))
  exact rR z rfl rfl rfl

def RF92 (res : Int) (r : PV) : Prop := r = vi res
theorem bg6 {x0 : ae} {x1 x2 : Int} {v0 : PV} (r0 : ae.t.R x0 v0) (hk : 0 ≤ x1 ∧ x1 ≤ 3) : FnR Tryz.prog 92 [v0, vi x1, vi x2] (vi (qe x0 x1 x2)) := by
 refine fnS (R := RF92) dq7 (fun _ h => h) rfl fun res z => ?_
 unfold qe at z
 refine sR (af (dw rfl (TR.cnt ae.t r0)) (mI rfl (nS (am (sR (mV rfl (bN cn rfl rfl (mV rfl ?_))))))))
 refine cm 7 (d := 16) (v := vb ((decide (x2 < 0)) || (decide ((ix (mi x0) x1) ≤ x2)))) ?_ ?_
 ·intro S Q r
  cases a3 : (decide (x2 < 0))
  ·intro k
   have a1 := a3
   try simp only [qa] at a1
   refine ai rfl rfl (ay rfl) (ai rfl rfl (ck rfl (TR.cnt ae.t r0) (TR.agg ae.t r0)) ?_)
   obtain ⟨b0, a8, a6⟩ := bk4  r0 
   refine lf rfl rfl (rl rfl rfl (aj (TR.clo ae.t r0) bh) a8) (ai rfl rfl (ay rfl) ?_)
   obtain ⟨a5, a7, a0⟩ := bm8 (t := tI) a6 (i := x1) (by omega) (by omega)
   have a0 : a5 = vi (ix (mi x0) x1) := a0; subst a0
   refine ai rfl rfl (aq2 rfl rfl a7) (ai rfl rfl (ct rfl rfl kj) ?_)
   exact gK rfl rfl rfl rfl rfl k
  ·exact gN 6 rfl rfl rfl rfl rfl rfl
 refine nS ?_
 refine cd z rfl ?_ ?_ <;> clear z <;> intro c z <;> try simp only [qa] at c
 ·refine sR (mI rfl (nS ?_))
  exact rR z rfl rfl rfl
 ·refine ax (ap (sR (lD r0 rfl rfl rfl (mV rfl ?_))))
  obtain ⟨a9, a2, z⟩ := br z
  have a4 := cs9 (x1 := x1) r0 
  rw [a2] at a4
  refine cL a4 rfl rfl (aj (TR.clo ae.t r0) (aj rfl bh)) (mV rfl (bN dp rfl rfl (mV rfl (nS ?_))))
  exact rR z rfl rfl rfl

def RF62 (res : Int) (r : PV) : Prop := r = vi res
theorem ve {S : List Fr} {res : Int} {x0 : ae} {x1 : aa} {b0 : PV} (a9 : (decide (x1.Header = (-1))) = false) (b1 : ((((decide (x1.Header < 0)) || (decide ((x0.Headers.length : Int) ≤ x1.Header))) || (decide (x1.Field < 0))) || (decide ((((ix x0.Headers x1.Header).Fields).length : Int) ≤ x1.Field))) = false) (c2 : ((sub x0.Headers 0 x1.Header).length : Int) = x1.Header - 0) (a7 : (tSl bz.t).R (sub x0.Headers 0 x1.Header) b0) {K0 : Int → Int}
  (c4 : ∀ {a2 : Int} {h : Heap} (M0 : Mem h []), K0 a2 = res → PX Tryz.prog 0 S (QR Tryz.prog [(4, none)] (RF62 res)) [(5, vi a2)] h) :
  ∀ {m : Nat} {a2 a0 : Int} (b9 : m = Int.toNat (((sub x0.Headers 0 x1.Header).length : Int) - a0)) (a6 : 0 ≤ a0) {h : Heap} (M0 : Mem h []), je x0 x1 K0 m a2 a0 = res → RC Tryz.prog (.loop cs7) S (QR Tryz.prog [(4, none)] (RF62 res)) [(52, vi a0), (51, vi ((sub x0.Headers 0 x1.Header).length : Int)), (50, b0), (5, vi a2)] h := by
 have a5 := a9
 try simp only [qa] at a5
 have a4 := b1
 try simp only [qa] at a4
 intro m
 induction m with
 | zero =>
  intro a2 a0 b9 a6 h M0 z
  rw [je] at z
  refine bv (sR (bN cn rfl rfl (nS (am ?_))))
  refine bp rfl ?_ ?_ <;> intro c <;> try simp only [qa] at c
  ·omega
  refine dg (dq (dc ?_))
  exact wP (c4 (Mem.sub M0 .slnil) z) rfl
 | succ m ih =>
  intro a2 a0 b9 a6 h M0 z
  rw [je] at z
  refine bv (sR (bN cn rfl rfl (nS (am ?_))))
  refine bp rfl ?_ ?_ <;> intro c <;> try simp only [qa] at c
  rotate_left
  ·omega
  refine ax (ap (am (bf (sR ?_))))
  obtain ⟨a8, b4, a3⟩ := de (i := a0) a7 (by omega) (by omega)
  refine af (bd rfl rfl b4) (lD a3 rfl rfl rfl ?_)
  refine fa (x := .agg [vs [], nilS]) M0 rfl rfl (fun b2 b5 c5 b7 => ?_)
  refine ek (k := 0) (v := a8) b7 rfl rfl rfl (TR.cnt bz.t a3) (fun b3 a1 => ?_)
  replace a1 : Mem b3 [⟨.op b2 b5 0, 92, 2, [a8]⟩] := a1
  refine nS (av (mV rfl (af (bg rfl) ?_)))
  obtain ⟨c3, b6, b8⟩ := bz.g_Fields a3
  refine af (cg (k := 0) a1 rfl rfl b6) (af (cp rfl (ca b8 Tryz.underlying23 _)) (bN dp rfl rfl (mV rfl (bn (cy (ap (av (bN dp rfl rfl ?_))))))))
  refine mV rfl (bn (cv ?_))
  have s := da a7
  have o : wr (a0 + 1) = a0 + 1 := dj (by omega) (by omega)
  erw [o]
  exact wC (ih   (by omega) (by omega) (Mem.sub a1 (.cons _ .slnil)) z) rfl

theorem df6 {x0 : ae} {x1 : aa} {v0 v1 : PV} (r0 : ae.t.R x0 v0) (r1 : aa.t.R x1 v1) : FnR Tryz.prog 62 [v0, v1] (vi (jc x0 x1)) := by
 refine fnS (R := RF62) do9 (fun _ h => h) rfl fun res z => ?_
 unfold jc at z
 refine sR (af (dw rfl (TR.cnt ae.t r0)) (af (dw rfl (TR.cnt aa.t r1)) (mI rfl (nS (am (sR (fL rfl (aa.g_Header r1) rfl rfl (bN (dt (b := -1)) rfl rfl ?_))))))))
 refine nS ?_
 refine cd z rfl ?_ ?_ <;> clear z <;> intro a1 z <;> have b0 := a1 <;> try simp only [qa] at b0
 ·refine sR (lD r0 rfl rfl rfl (fL rfl (aa.g_Field r1) rfl rfl ?_))
  obtain ⟨d4, b3, z⟩ := br z
  have b7 := bg6 (x1 := 2) (x2 := x1.Field) r0 (by omega)
  rw [b3] at b7
  refine cL b7 rfl rfl (aj (TR.clo ae.t r0) (aj rfl (aj rfl bh))) (mV rfl (nS ?_))
  exact rR z rfl rfl rfl
 ·refine ax (ap (am (sR (fL rfl (aa.g_Header r1) rfl rfl (bN cn rfl rfl (mV rfl ?_))))))
  refine cm 7 (d := 25) (v := vb ((decide (x1.Header < 0)) || (decide ((x0.Headers.length : Int) ≤ x1.Header)))) ?_ ?_
  ·intro S Q r
   cases b2 : (decide (x1.Header < 0))
   ·intro k
    have a3 := b2
    try simp only [qa] at a3
    refine ai rfl rfl (co rfl (aa.g_Header r1)) (ai rfl rfl (ck rfl rfl rfl) ?_)
    obtain ⟨d1, c5, a6⟩ := ae.g_Headers r0
    refine ai rfl rfl (co rfl c5) (ai rfl rfl (ck rfl (TR.cnt (tSl bz.t) a6) (TR.agg (tSl bz.t) a6)) (ai rfl rfl (cp rfl (ca a6 Tryz.underlying22 _)) (ai rfl rfl (ct rfl rfl kj) ?_)))
    exact gK rfl rfl rfl rfl rfl k
   ·exact gN 6 rfl rfl rfl rfl rfl rfl
  refine mV rfl ?_
  refine cm 4 (d := 30) (v := vb (((decide (x1.Header < 0)) || (decide ((x0.Headers.length : Int) ≤ x1.Header))) || (decide (x1.Field < 0)))) ?_ ?_
  ·intro S Q r
   cases b5 : ((decide (x1.Header < 0)) || (decide ((x0.Headers.length : Int) ≤ x1.Header)))
   ·intro k
    have a4 := b5
    try simp only [qa] at a4
    refine ai rfl rfl (co rfl (aa.g_Field r1)) (ai rfl rfl (ck rfl rfl rfl) (ai rfl rfl (ct rfl rfl cn) ?_))
    exact gK rfl rfl rfl rfl rfl k
   ·exact gN 3 rfl rfl rfl rfl rfl rfl
  refine mV rfl ?_
  refine cm 12 (d := 43) (v := vb ((((decide (x1.Header < 0)) || (decide ((x0.Headers.length : Int) ≤ x1.Header))) || (decide (x1.Field < 0))) || (decide ((((ix x0.Headers x1.Header).Fields).length : Int) ≤ x1.Field)))) ?_ ?_
  ·intro S Q r
   cases b1 : (((decide (x1.Header < 0)) || (decide ((x0.Headers.length : Int) ≤ x1.Header))) || (decide (x1.Field < 0)))
   ·intro k
    have a8 := b1
    try simp only [qa] at a8
    refine ai rfl rfl (co rfl (aa.g_Field r1)) (ai rfl rfl (ck rfl rfl rfl) ?_)
    obtain ⟨d3, c2, a5⟩ := ae.g_Headers r0
    refine ai rfl rfl (co rfl c2) (ai rfl rfl (ck rfl (TR.cnt (tSl bz.t) a5) (TR.agg (tSl bz.t) a5)) (ai rfl rfl (co rfl (aa.g_Header r1)) (ai rfl rfl (ck rfl rfl rfl) ?_)))
    obtain ⟨d5, b8, c4⟩ := de (i := x1.Header) a5 (by omega) (by omega)
    refine ai rfl rfl (bd rfl rfl b8) ?_
    obtain ⟨d2, b9, a7⟩ := bz.g_Fields c4
    refine ai rfl rfl (co rfl b9) (ai rfl rfl (ck rfl (TR.cnt (tSl az.t) a7) (TR.agg (tSl az.t) a7)) (ai rfl rfl (cp rfl (ca a7 Tryz.underlying23 _)) (ai rfl rfl (ct rfl rfl kj) ?_)))
    exact gK rfl rfl rfl rfl rfl k
   ·exact gN 11 rfl rfl rfl rfl rfl rfl
  refine nS ?_
  refine cd z rfl ?_ ?_ <;> clear z <;> intro a2 z <;> have a9 := a2 <;> try simp only [qa] at a9
  ·refine sR (mI rfl (nS ?_))
   exact rR z rfl rfl rfl
  ·refine ax (ap (sR (fL rfl (aa.g_Field r1) rfl rfl (mV rfl (nS (am (sR (gL (ae.g_Headers r0) rfl rfl rfl fun a0 c3 => ?_))))))))
   refine fL rfl (aa.g_Header r1) rfl rfl (ww (E0 := [(49, vi x1.Header), (48, .fp (vi x1.Header)), (47, a0), (46, .fp a0), (5, vi x1.Field), (45, vi x1.Field), (44, .fp (vi x1.Field)), (43, vb ((((decide (x1.Header < 0)) || (decide ((x0.Headers.length : Int) ≤ x1.Header))) || (decide (x1.Field < 0))) || (decide ((((ix x0.Headers x1.Header).Fields).length : Int) ≤ x1.Field)))), (31, vb (((decide (x1.Header < 0)) || (decide ((x0.Headers.length : Int) ≤ x1.Header))) || (decide (x1.Field < 0)))), (30, vb (((decide (x1.Header < 0)) || (decide ((x0.Headers.length : Int) ≤ x1.Header))) || (decide (x1.Field < 0)))), (26, vb ((decide (x1.Header < 0)) || (decide ((x0.Headers.length : Int) ≤ x1.Header)))), (25, vb ((decide (x1.Header < 0)) || (decide ((x0.Headers.length : Int) ≤ x1.Header)))), (18, vb (decide (x1.Header < 0))), (17, vb (decide (x1.Header < 0))), (16, vi x1.Header), (15, .fp (vi x1.Header)), (10, vb (decide (x1.Header = (-1)))), (9, vi x1.Header), (8, .fp (vi x1.Header)), (4, vi 0), (3, .fp v1), (2, .fp v0), (0, v0), (1, v1)]) (sB rfl) ?_)
   obtain ⟨c6, c8, b4⟩ := at4 (P := Tryz.prog) (hf := false) (E := [(49, vi x1.Header), (48, .fp (vi x1.Header)), (47, a0), (46, .fp a0), (5, vi x1.Field), (45, vi x1.Field), (44, .fp (vi x1.Field)), (43, vb ((((decide (x1.Header < 0)) || (decide ((x0.Headers.length : Int) ≤ x1.Header))) || (decide (x1.Field < 0))) || (decide ((((ix x0.Headers x1.Header).Fields).length : Int) ≤ x1.Field)))), (31, vb (((decide (x1.Header < 0)) || (decide ((x0.Headers.length : Int) ≤ x1.Header))) || (decide (x1.Field < 0)))), (30, vb (((decide (x1.Header < 0)) || (decide ((x0.Headers.length : Int) ≤ x1.Header))) || (decide (x1.Field < 0)))), (26, vb ((decide (x1.Header < 0)) || (decide ((x0.Headers.length : Int) ≤ x1.Header)))), (25, vb ((decide (x1.Header < 0)) || (decide ((x0.Headers.length : Int) ≤ x1.Header)))), (18, vb (decide (x1.Header < 0))), (17, vb (decide (x1.Header < 0))), (16, vi x1.Header), (15, .fp (vi x1.Header)), (10, vb (decide (x1.Header = (-1)))), (9, vi x1.Header), (8, .fp (vi x1.Header)), (4, vi 0), (3, .fp v1), (2, .fp v0), (0, v0), (1, v1)]) (h := ⟨0, []⟩) (t := bz.t) (tt := 22) (x := (.tmp 47)) (lo := none) (hi := (some (.tmp 49))) (a := 0) (b := x1.Header) c3 rfl rfl rfl (show 0 ≤ 0 by omega) (show 0 ≤ x1.Header by omega) (show x1.Header ≤ (x0.Headers.length : Int) by omega) (fun ad => by kernel_rfl)
   have b6 := wo (l := x0.Headers) (show 0 ≤ 0 by omega) (show 0 ≤ x1.Header by omega) (show x1.Header ≤ (x0.Headers.length : Int) by omega)
   refine af (v := c6) (c8) (af (cp rfl (ca b4 Tryz.underlying22 _)) (mI rfl (nS (bf ?_))))
   refine wC (ve a1 a2 b6 b4 ?_  rfl (by omega) (Mem.sub (Mem.nil ⟨0, []⟩) .slnil) z) rfl
   ·intro c7 d0 c9 z
    refine dy (ap (sR (mV rfl (mV rfl (nS ?_)))))
    exact rR z rfl rfl rfl

def RF63 (res : Int) (r : PV) : Prop := r = vi res
theorem dl6 {x0 : ae} {x1 : Int} {v0 : PV} (r0 : ae.t.R x0 v0) : FnR Tryz.prog 63 [v0, vi x1] (vi (js x0 x1)) := by
 refine fnS (R := RF63) dr4 (fun _ h => h) rfl fun res z => ?_
 unfold js at z
 refine sR (af (dw rfl (TR.cnt ae.t r0)) (mI rfl (nR (lD r0 rfl rfl rfl (mV rfl ?_)))))
 obtain ⟨a2, a1, z⟩ := br z
 have a0 := bg6 (x1 := 1) (x2 := x1) r0 (by omega)
 rw [a1] at a0
 refine cL a0 rfl rfl (aj (TR.clo ae.t r0) (aj rfl (aj rfl bh))) (mV rfl (nS ?_))
 exact rR z rfl rfl rfl

def RF25 (res : Int) (r : PV) : Prop := r = vi res
theorem di8 {x0 : ae} {x1 : Int} {v0 : PV} (r0 : ae.t.R x0 v0) : FnR Tryz.prog 25 [v0, vi x1] (vi (ii x0 x1)) := by
 refine fnS (R := RF25) dh4 (fun _ h => h) rfl fun res z => ?_
 unfold ii at z
 refine sR (af (dw rfl (TR.cnt ae.t r0)) (mI rfl (nR (lD r0 rfl rfl rfl (mV rfl ?_)))))
 obtain ⟨a2, a1, z⟩ := br z
 have a0 := bg6 (x1 := 3) (x2 := x1) r0 (by omega)
 rw [a1] at a0
 refine cL a0 rfl rfl (aj (TR.clo ae.t r0) (aj rfl (aj rfl bh))) (mV rfl (nS ?_))
 exact rR z rfl rfl rfl

def RF65 (i0_ w0_ : Nat) (R_ : List Ent) (res : ak) (r : PV) (h : Heap) : Prop := ∃ uF0H : PV, ∃ uF0M : PV, ∃ uF0R : PV, ∃ uF0A : PV, ∃ uF0T : PV, ∃ uF0S : PV, ∃ uF0C : PV, ∃ uF0D : PV, ∃ aF0_8 : PV, ∃ esF0_8 : List PV, Mem h (⟨.op i0_ w0_ 0, 118, 10, [.agg [vs res.p.Name, uF0H, uF0M, uF0R, uF0A, uF0T, uF0S, uF0C, uF0D, aF0_8]]⟩ :: ⟨aF0_8, 3, 1, esF0_8⟩ :: R_) ∧ ((tSl bz.t).R res.p.Headers uF0H) ∧ ((tSl az.t).R res.p.Metadata uF0M) ∧ ((tSl cq.t).R res.p.Registers uF0R) ∧ ((tSl bm.t).R res.p.Actions uF0A) ∧ ((tSl bw.t).R res.p.Tables uF0T) ∧ ((tSl bt.t).R res.p.States uF0S) ∧ ((tSl aw.t).R res.p.Control uF0C) ∧ ((tSl tI).R res.p.Deparser uF0D) ∧ (All2 tI.R res.cells esF0_8) ∧ (isL aF0_8 = true) ∧ (res.cells.length ≤ 4611686018427387904) ∧ (Wri aF0_8 esF0_8) ∧ r = .tup []
theorem se {S : List Fr} {res : ak} {x0 : ak} {x1 : List aa} {x2 x3 : List Int} {v1 v2 v3 : PV} {R_ : List Ent} {d8 d5 d2 d6 d9 e0 d7 d3 g8 : PV} {h2 : List PV} {g3 g4 : Nat} (r1 : (tSl aa.t).R x1 v1) (f9 : (tSl bz.t).R x0.p.Headers d8) (f5 : (tSl az.t).R x0.p.Metadata d5) (e7 : (tSl cq.t).R x0.p.Registers d2) (f7 : (tSl bm.t).R x0.p.Actions d6) (g5 : (tSl bw.t).R x0.p.Tables d9) (g2 : (tSl bt.t).R x0.p.States e0) (g0 : (tSl aw.t).R x0.p.Control d7) (f3 : (tSl tI).R x0.p.Deparser d3) (i8 : isL g8 = true) (i7 : x0.cells.length ≤ 4611686018427387904) (i4 : Wri g8 h2) (hb : x0.cells.length + x1.length + x2.length + x3.length ≤ 1000000) {K0 : ak → ak}
  (j5 : ∀ {zE1 : ak} {a5 a1 a0 a3 a6 a7 a4 a2 b6 : PV} {b7 : List PV} (b2 : (tSl bz.t).R zE1.p.Headers a5) (a9 : (tSl az.t).R zE1.p.Metadata a1) (a8 : (tSl cq.t).R zE1.p.Registers a0) (b1 : (tSl bm.t).R zE1.p.Actions a3) (b4 : (tSl bw.t).R zE1.p.Tables a6) (b5 : (tSl bt.t).R zE1.p.States a7) (b3 : (tSl aw.t).R zE1.p.Control a4) (b0 : (tSl tI).R zE1.p.Deparser a2) (c5 : All2 tI.R zE1.cells b7) (c6 : isL b6 = true) (c4 : zE1.cells.length ≤ 4611686018427387904) (c3 : Wri b6 b7) (j7 : zE1.cells.length ≤ x0.cells.length + x1.length) {h : Heap} (M0 : Mem h (⟨.op g3 g4 0, 118, 10, [.agg [vs zE1.p.Name, a5, a1, a0, a3, a6, a7, a4, a2, b6]]⟩ :: ⟨b6, 3, 1, b7⟩ :: R_)), K0 zE1 = res → PX Tryz.prog 0 S (retPost Tryz.prog [] (RF65 g3 g4 R_ res)) [(2, v2), (3, v3), (4, .fp (.op g3 g4 0)), (8, .fn (.func 137) [] [.fp (.op g3 g4 0)])] h) :
  ∀ {m : Nat} {d4 : Int} {zE1 : ak} {a5 a1 a0 a3 a6 a7 a4 a2 b6 : PV} {b7 : List PV} (b2 : (tSl bz.t).R zE1.p.Headers a5) (a9 : (tSl az.t).R zE1.p.Metadata a1) (a8 : (tSl cq.t).R zE1.p.Registers a0) (b1 : (tSl bm.t).R zE1.p.Actions a3) (b4 : (tSl bw.t).R zE1.p.Tables a6) (b5 : (tSl bt.t).R zE1.p.States a7) (b3 : (tSl aw.t).R zE1.p.Control a4) (b0 : (tSl tI).R zE1.p.Deparser a2) (c5 : All2 tI.R zE1.cells b7) (c6 : isL b6 = true) (c4 : zE1.cells.length ≤ 4611686018427387904) (c3 : Wri b6 b7) (j3 : m = Int.toNat ((x1.length : Int) - d4)) (i2 : 0 ≤ d4) (g6 : (zE1.cells.length : Int) ≤ (x0.cells.length : Int) + d4) (g7 : d4 ≤ (x1.length : Int)) {h : Heap} (M0 : Mem h (⟨.op g3 g4 0, 118, 10, [.agg [vs zE1.p.Name, a5, a1, a0, a3, a6, a7, a4, a2, b6]]⟩ :: ⟨b6, 3, 1, b7⟩ :: R_)), fj x1 K0 m d4 zE1 = res → RC Tryz.prog (.loop cn0) S (retPost Tryz.prog [] (RF65 g3 g4 R_ res)) [(18, vi d4), (17, vi (x1.length : Int)), (16, v1), (8, .fn (.func 137) [] [.fp (.op g3 g4 0)]), (4, .fp (.op g3 g4 0)), (3, v3), (2, v2)] h := by
 have hb' := hb
 try simp only [qa] at hb'
 intro m
 induction m with
 | zero =>
  intro d4 zE1 a5 a1 a0 a3 a6 a7 a4 a2 b6 b7 b2 a9 a8 b1 b4 b5 b3 b0 c5 c6 c4 c3 j3 i2 g6 g7 h M0 z
  rw [fj] at z
  refine bv (sR (bN cn rfl rfl (nS (am ?_))))
  refine bp rfl ?_ ?_ <;> intro c <;> try simp only [qa] at c
  ·omega
  refine dg (dq (dc ?_))
  exact wP (j5 (zE1 := ({ p := zE1.p, cells := zE1.cells } : ak)) b2 a9 a8 b1 b4 b5 b3 b0 c5 c6 c4 c3 (by omega) (Mem.sub M0 (.cons_cons _ (.cons_cons _ (List.Sublist.refl R_)))) z) rfl
 | succ m ih =>
  intro d4 zE1 a5 a1 a0 a3 a6 a7 a4 a2 b6 b7 b2 a9 a8 b1 b4 b5 b3 b0 c5 c6 c4 c3 j3 i2 g6 g7 h M0 z
  rw [fj] at z
  refine bv (sR (bN cn rfl rfl (nS (am ?_))))
  refine bp rfl ?_ ?_ <;> intro c <;> try simp only [qa] at c
  rotate_left
  ·omega
  refine ax (ap (am (bf (sR ?_))))
  obtain ⟨h1, j0, g1⟩ := de (i := d4) r1 (by omega) (by omega)
  refine af (bd rfl rfl j0) (lD g1 rfl rfl rfl ?_)
  refine fa (x := .agg [vi 0, vi 0]) M0 rfl rfl (fun i0 h4 j6 j1 => ?_)
  refine ek (k := 0) (v := h1) j1 rfl rfl rfl (TR.cnt aa.t g1) (fun i3 f8 => ?_)
  replace f8 : Mem i3 (⟨.op i0 h4 0, 87, 2, [h1]⟩ :: ⟨.op g3 g4 0, 118, 10, [.agg [vs zE1.p.Name, a5, a1, a0, a3, a6, a7, a4, a2, b6]]⟩ :: ⟨b6, 3, 1, b7⟩ :: R_) := f8
  refine nS (aj1 (mV rfl (lR rfl rfl rfl (af (ir rfl rfl) (af (bg rfl) (af (cg (k := 1) f8 rfl rfl rfl) (af (pw (k := 0) f8 rfl rfl (TR.agg aa.t g1)) ?_)))))))
  obtain ⟨i6, h6, z⟩ := br z
  have h5 := df6  (show ae.t.R zE1.p (.agg [vs zE1.p.Name, a5, a1, a0, a3, a6, a7, a4, a2]) from ⟨a5, a1, a0, a3, a6, a7, a4, a2, rfl, b2, a9, a8, b1, b4, b5, b3, b0⟩) g1 
  rw [h6] at h5
  refine cL h5 rfl rfl (aj (TR.clo ae.t (show ae.t.R zE1.p (.agg [vs zE1.p.Name, a5, a1, a0, a3, a6, a7, a4, a2]) from ⟨a5, a1, a0, a3, a6, a7, a4, a2, rfl, b2, a9, a8, b1, b4, b5, b3, b0⟩)) (aj (TR.clo aa.t g1) bh)) ?_
  refine bn (ba5 ?_)
  have i9 : Mem i3 (⟨.op g3 g4 0, 118, 10, [.agg [vs zE1.p.Name, a5, a1, a0, a3, a6, a7, a4, a2, b6]]⟩ :: ⟨b6, 3, 1, b7⟩ :: ⟨.op i0 h4 0, 87, 2, [h1]⟩ :: R_) := (Mem.front (k := 2) (Mem.front (k := 2) f8 rfl) rfl)
  obtain ⟨h9, g9, z⟩ := br z
  obtain ⟨j2, j4, h7, h0⟩ := av3 (x0 := i6) (c0 := ({ p := zE1.p, cells := zE1.cells } : ak)) b2 a9 a8 b1 b4 b5 b3 b0 c5 c6 c4 c3 i9 (by omega)
  rw [g9] at h0
  obtain ⟨f1, e3, e1, e4, f4, f2, e9, e2, i1, h3, i5, c7, c2, b8, c8, d1, d0, c9, b9, e6, e5, f0, e8, f6⟩ := h0
  replace f6 := f6.symm; subst f6
  refine gu rfl rfl h7 ?_
  have h8 := al3 g9; try dsimp only at h8
  refine kn (cy (ap (av (bN dp rfl rfl (mV rfl (bn (cv ?_)))))))
  have s := da r1
  have o : wr (d4 + 1) = d4 + 1 := dj (by omega) (by omega)
  erw [o]
  exact wC (ih (zE1 := ({ p := h9.p, cells := h9.cells } : ak)) c7 c2 b8 c8 d1 d0 c9 b9 e6 e5 f0 e8 (by omega) (by omega) (by omega) (by omega) (Mem.sub i5 (.cons_cons _ (.cons_cons _ (.cons _ (List.Sublist.refl R_))))) z) rfl

theorem sg {S : List Fr} {res : ak} {x0 : ak} {x1 : List aa} {x2 x3 : List Int} {b8 : ak} {v2 v3 : PV} {R_ : List Ent} {e7 e4 e1 e5 e9 f0 e6 e2 i3 : PV} {j0 : List PV} {d2 c3 b9 d6 e0 d9 d4 c5 e8 : PV} {f5 : List PV} {i1 i2 : Nat} (r2 : (tSl tI).R x2 v2) (h6 : (tSl bz.t).R x0.p.Headers e7) (h4 : (tSl az.t).R x0.p.Metadata e4) (g5 : (tSl cq.t).R x0.p.Registers e1) (h5 : (tSl bm.t).R x0.p.Actions e5) (i0 : (tSl bw.t).R x0.p.Tables e9) (h9 : (tSl bt.t).R x0.p.States f0) (h7 : (tSl aw.t).R x0.p.Control e6) (h3 : (tSl tI).R x0.p.Deparser e2) (k6 : isL i3 = true) (k4 : x0.cells.length ≤ 4611686018427387904) (k3 : Wri i3 j0) (hb : x0.cells.length + x1.length + x2.length + x3.length ≤ 1000000) (f4 : (tSl bz.t).R b8.p.Headers d2) (f3 : (tSl az.t).R b8.p.Metadata c3) (f1 : (tSl cq.t).R b8.p.Registers b9) (f6 : (tSl bm.t).R b8.p.Actions d6) (g0 : (tSl bw.t).R b8.p.Tables e0) (g1 : (tSl bt.t).R b8.p.States d9) (f8 : (tSl aw.t).R b8.p.Control d4) (f2 : (tSl tI).R b8.p.Deparser c5) (i8 : isL e8 = true) (j1 : b8.cells.length ≤ 4611686018427387904) (i9 : Wri e8 f5) (k0 : b8.cells.length ≤ x0.cells.length + x1.length) {K2 : ak → ak}
  (l1 : ∀ {zE1 : ak} {a5 a1 a0 a3 a6 a7 a4 a2 b6 : PV} {b7 : List PV} (b2 : (tSl bz.t).R zE1.p.Headers a5) (a9 : (tSl az.t).R zE1.p.Metadata a1) (a8 : (tSl cq.t).R zE1.p.Registers a0) (b1 : (tSl bm.t).R zE1.p.Actions a3) (b4 : (tSl bw.t).R zE1.p.Tables a6) (b5 : (tSl bt.t).R zE1.p.States a7) (b3 : (tSl aw.t).R zE1.p.Control a4) (b0 : (tSl tI).R zE1.p.Deparser a2) (d0 : All2 tI.R zE1.cells b7) (d3 : isL b6 = true) (c9 : zE1.cells.length ≤ 4611686018427387904) (c7 : Wri b6 b7) (l3 : zE1.cells.length ≤ x0.cells.length + x1.length + x2.length) {h : Heap} (M0 : Mem h (⟨.op i1 i2 0, 118, 10, [.agg [vs zE1.p.Name, a5, a1, a0, a3, a6, a7, a4, a2, b6]]⟩ :: ⟨b6, 3, 1, b7⟩ :: R_)), K2 zE1 = res → PX Tryz.prog 2 S (retPost Tryz.prog [] (RF65 i1 i2 R_ res)) [(3, v3), (4, .fp (.op i1 i2 0)), (8, .fn (.func 137) [] [.fp (.op i1 i2 0)])] h) :
  ∀ {m : Nat} {e3 : Int} {zE1 : ak} {a5 a1 a0 a3 a6 a7 a4 a2 b6 : PV} {b7 : List PV} (b2 : (tSl bz.t).R zE1.p.Headers a5) (a9 : (tSl az.t).R zE1.p.Metadata a1) (a8 : (tSl cq.t).R zE1.p.Registers a0) (b1 : (tSl bm.t).R zE1.p.Actions a3) (b4 : (tSl bw.t).R zE1.p.Tables a6) (b5 : (tSl bt.t).R zE1.p.States a7) (b3 : (tSl aw.t).R zE1.p.Control a4) (b0 : (tSl tI).R zE1.p.Deparser a2) (d0 : All2 tI.R zE1.cells b7) (d3 : isL b6 = true) (c9 : zE1.cells.length ≤ 4611686018427387904) (c7 : Wri b6 b7) (k9 : m = Int.toNat ((x2.length : Int) - e3)) (j7 : 0 ≤ e3) (i7 : (zE1.cells.length : Int) ≤ (x0.cells.length + x1.length : Int) + e3) (i6 : e3 ≤ (x2.length : Int)) {h : Heap} (M0 : Mem h (⟨.op i1 i2 0, 118, 10, [.agg [vs zE1.p.Name, a5, a1, a0, a3, a6, a7, a4, a2, b6]]⟩ :: ⟨b6, 3, 1, b7⟩ :: R_)), fk x2 K2 m e3 zE1 = res → RC Tryz.prog (.loop co3) S (retPost Tryz.prog [] (RF65 i1 i2 R_ res)) [(33, vi e3), (32, vi (x2.length : Int)), (31, v2), (8, .fn (.func 137) [] [.fp (.op i1 i2 0)]), (4, .fp (.op i1 i2 0)), (3, v3)] h := by
 have hb' := hb
 try simp only [qa] at hb'
 intro m
 induction m with
 | zero =>
  intro e3 zE1 a5 a1 a0 a3 a6 a7 a4 a2 b6 b7 b2 a9 a8 b1 b4 b5 b3 b0 d0 d3 c9 c7 k9 j7 i7 i6 h M0 z
  rw [fk] at z
  refine bv (sR (bN cn rfl rfl (nS (am ?_))))
  refine bp rfl ?_ ?_ <;> intro c <;> try simp only [qa] at c
  ·omega
  refine dg (dq (dc ?_))
  exact wP (l1 (zE1 := ({ p := zE1.p, cells := zE1.cells } : ak)) b2 a9 a8 b1 b4 b5 b3 b0 d0 d3 c9 c7 (by omega) (Mem.sub M0 (.cons_cons _ (.cons_cons _ (List.Sublist.refl R_)))) z) rfl
 | succ m ih =>
  intro e3 zE1 a5 a1 a0 a3 a6 a7 a4 a2 b6 b7 b2 a9 a8 b1 b4 b5 b3 b0 d0 d3 c9 c7 k9 j7 i7 i6 h M0 z
  rw [fk] at z
  refine bv (sR (bN cn rfl rfl (nS (am ?_))))
  refine bp rfl ?_ ?_ <;> intro c <;> try simp only [qa] at c
  rotate_left
  ·omega
  refine ax (ap (am (bf (sR (af (bd rfl rfl (slI r2 (by omega) (by omega))) (lR rfl rfl rfl (mV rfl (nS ?_))))))))
  refine fc (cw (mV rfl (cx (cw (lR rfl rfl rfl (cx (cw (af (ir rfl rfl) ?_))))))))
  refine cx (cw (af (bg rfl) (cx (cw (af (cg (k := 0) M0 rfl rfl rfl) (cx (cw (mV rfl ?_))))))))
  refine cx (cw ?_)
  obtain ⟨k7, j6, z⟩ := br z
  have j4 := dl6 (x1 := (ix x2 e3)) (show ae.t.R zE1.p (.agg [vs zE1.p.Name, a5, a1, a0, a3, a6, a7, a4, a2]) from ⟨a5, a1, a0, a3, a6, a7, a4, a2, rfl, b2, a9, a8, b1, b4, b5, b3, b0⟩) 
  rw [j6] at j4
  refine cL j4 rfl rfl (aj (TR.clo ae.t (show ae.t.R zE1.p (.agg [vs zE1.p.Name, a5, a1, a0, a3, a6, a7, a4, a2]) from ⟨a5, a1, a0, a3, a6, a7, a4, a2, rfl, b2, a9, a8, b1, b4, b5, b3, b0⟩)) (aj rfl bh)) (cx ?_)
  have k5 : Mem h (⟨.op i1 i2 0, 118, 10, [.agg [vs zE1.p.Name, a5, a1, a0, a3, a6, a7, a4, a2, b6]]⟩ :: ⟨b6, 3, 1, b7⟩ :: R_) := (Mem.front (k := 1) (Mem.front (k := 1) M0 rfl) rfl)
  obtain ⟨j3, i5, z⟩ := br z
  obtain ⟨l0, l2, j8, i4⟩ := av3 (x0 := k7) (c0 := ({ p := zE1.p, cells := zE1.cells } : ak)) b2 a9 a8 b1 b4 b5 b3 b0 d0 d3 c9 c7 k5 (by omega)
  rw [i5] at i4
  obtain ⟨h0, f9, f7, g3, h1, h2, g7, g2, j9, j2, k8, d5, c4, c2, c8, d8, d7, d1, c6, g9, g6, g8, g4, h8⟩ := i4
  replace h8 := h8.symm; subst h8
  refine gu rfl rfl j8 ?_
  have j5 := al3 i5; try dsimp only at j5
  refine kn (cy (ap (av (bN dp rfl rfl (mV rfl (bn (cv ?_)))))))
  have s := da r2
  have o : wr (e3 + 1) = e3 + 1 := dj (by omega) (by omega)
  erw [o]
  exact wC (ih (zE1 := ({ p := j3.p, cells := j3.cells } : ak)) d5 c4 c2 c8 d8 d7 d1 c6 g9 g6 g8 g4 (by omega) (by omega) (by omega) (by omega) (Mem.sub k8 (.cons_cons _ (.cons_cons _ (List.Sublist.refl R_)))) z) rfl

theorem sd {S : List Fr} {res : ak} {x0 : ak} {x1 : List aa} {x2 x3 : List Int} {b9 : ak} {b8 : ak} {v3 : PV} {R_ : List Ent} {f6 f3 f0 f4 f9 g0 f5 f1 k4 : PV} {l2 : List PV} {d6 c5 c2 e3 e7 e6 e0 c8 f7 : PV} {h2 : List PV} {e1 c7 c4 d5 e4 e9 d3 d0 f8 : PV} {g8 : List PV} {l3 l4 : Nat} (r3 : (tSl tI).R x3 v3) (j5 : (tSl bz.t).R x0.p.Headers f6) (j2 : (tSl az.t).R x0.p.Metadata f3) (i3 : (tSl cq.t).R x0.p.Registers f0) (j4 : (tSl bm.t).R x0.p.Actions f4) (j9 : (tSl bw.t).R x0.p.Tables f9) (j8 : (tSl bt.t).R x0.p.States g0) (j6 : (tSl aw.t).R x0.p.Control f5) (j0 : (tSl tI).R x0.p.Deparser f1) (m9 : isL k4 = true) (m8 : x0.cells.length ≤ 4611686018427387904) (m6 : Wri k4 l2) (hb : x0.cells.length + x1.length + x2.length + x3.length ≤ 1000000) (h0 : (tSl bz.t).R b9.p.Headers d6) (g6 : (tSl az.t).R b9.p.Metadata c5) (g2 : (tSl cq.t).R b9.p.Registers c2) (h4 : (tSl bm.t).R b9.p.Actions e3) (h8 : (tSl bw.t).R b9.p.Tables e7) (i0 : (tSl bt.t).R b9.p.States e6) (h5 : (tSl aw.t).R b9.p.Control e0) (g4 : (tSl tI).R b9.p.Deparser c8) (k8 : isL f7 = true) (l5 : b9.cells.length ≤ 4611686018427387904) (l1 : Wri f7 h2) (m5 : b9.cells.length ≤ x0.cells.length + x1.length) (g7 : (tSl bz.t).R b8.p.Headers e1) (g3 : (tSl az.t).R b8.p.Metadata c7) (g1 : (tSl cq.t).R b8.p.Registers c4) (h3 : (tSl bm.t).R b8.p.Actions d5) (h6 : (tSl bw.t).R b8.p.Tables e4) (i1 : (tSl bt.t).R b8.p.States e9) (g9 : (tSl aw.t).R b8.p.Control d3) (g5 : (tSl tI).R b8.p.Deparser d0) (l0 : isL f8 = true) (k9 : b8.cells.length ≤ 4611686018427387904) (k7 : Wri f8 g8) (m4 : b8.cells.length ≤ x0.cells.length + x1.length + x2.length) {K4 : ak → ak}
  (n4 : ∀ {zE1 : ak} {a5 a1 a0 a3 a6 a7 a4 a2 b6 : PV} {b7 : List PV} (b2 : (tSl bz.t).R zE1.p.Headers a5) (a9 : (tSl az.t).R zE1.p.Metadata a1) (a8 : (tSl cq.t).R zE1.p.Registers a0) (b1 : (tSl bm.t).R zE1.p.Actions a3) (b4 : (tSl bw.t).R zE1.p.Tables a6) (b5 : (tSl bt.t).R zE1.p.States a7) (b3 : (tSl aw.t).R zE1.p.Control a4) (b0 : (tSl tI).R zE1.p.Deparser a2) (d4 : All2 tI.R zE1.cells b7) (d7 : isL b6 = true) (d2 : zE1.cells.length ≤ 4611686018427387904) (d1 : Wri b6 b7) (n6 : zE1.cells.length ≤ x0.cells.length + x1.length + x2.length + x3.length) {h : Heap} (M0 : Mem h (⟨.op l3 l4 0, 118, 10, [.agg [vs zE1.p.Name, a5, a1, a0, a3, a6, a7, a4, a2, b6]]⟩ :: ⟨b6, 3, 1, b7⟩ :: R_)), K4 zE1 = res → PX Tryz.prog 4 S (retPost Tryz.prog [] (RF65 l3 l4 R_ res)) [] h) :
  ∀ {m : Nat} {f2 : Int} {zE1 : ak} {a5 a1 a0 a3 a6 a7 a4 a2 b6 : PV} {b7 : List PV} (b2 : (tSl bz.t).R zE1.p.Headers a5) (a9 : (tSl az.t).R zE1.p.Metadata a1) (a8 : (tSl cq.t).R zE1.p.Registers a0) (b1 : (tSl bm.t).R zE1.p.Actions a3) (b4 : (tSl bw.t).R zE1.p.Tables a6) (b5 : (tSl bt.t).R zE1.p.States a7) (b3 : (tSl aw.t).R zE1.p.Control a4) (b0 : (tSl tI).R zE1.p.Deparser a2) (d4 : All2 tI.R zE1.cells b7) (d7 : isL b6 = true) (d2 : zE1.cells.length ≤ 4611686018427387904) (d1 : Wri b6 b7) (n2 : m = Int.toNat ((x3.length : Int) - f2)) (m1 : 0 ≤ f2) (k6 : (zE1.cells.length : Int) ≤ (x0.cells.length + x1.length + x2.length : Int) + f2) (k0 : f2 ≤ (x3.length : Int)) {h : Heap} (M0 : Mem h (⟨.op l3 l4 0, 118, 10, [.agg [vs zE1.p.Name, a5, a1, a0, a3, a6, a7, a4, a2, b6]]⟩ :: ⟨b6, 3, 1, b7⟩ :: R_)), fi x3 K4 m f2 zE1 = res → RC Tryz.prog (.loop cy1) S (retPost Tryz.prog [] (RF65 l3 l4 R_ res)) [(48, vi f2), (47, vi (x3.length : Int)), (46, v3), (8, .fn (.func 137) [] [.fp (.op l3 l4 0)]), (4, .fp (.op l3 l4 0))] h := by
 have hb' := hb
 try simp only [qa] at hb'
 intro m
 induction m with
 | zero =>
  intro f2 zE1 a5 a1 a0 a3 a6 a7 a4 a2 b6 b7 b2 a9 a8 b1 b4 b5 b3 b0 d4 d7 d2 d1 n2 m1 k6 k0 h M0 z
  rw [fi] at z
  refine bv (sR (bN cn rfl rfl (nS (am ?_))))
  refine bp rfl ?_ ?_ <;> intro c <;> try simp only [qa] at c
  ·omega
  refine dg (dq (dc ?_))
  exact wP (n4 (zE1 := ({ p := zE1.p, cells := zE1.cells } : ak)) b2 a9 a8 b1 b4 b5 b3 b0 d4 d7 d2 d1 (by omega) (Mem.sub M0 (.cons_cons _ (.cons_cons _ (List.Sublist.refl R_)))) z) rfl
 | succ m ih =>
  intro f2 zE1 a5 a1 a0 a3 a6 a7 a4 a2 b6 b7 b2 a9 a8 b1 b4 b5 b3 b0 d4 d7 d2 d1 n2 m1 k6 k0 h M0 z
  rw [fi] at z
  refine bv (sR (bN cn rfl rfl (nS (am ?_))))
  refine bp rfl ?_ ?_ <;> intro c <;> try simp only [qa] at c
  rotate_left
  ·omega
  refine ax (ap (am (bf (sR (af (bd rfl rfl (slI r3 (by omega) (by omega))) (lR rfl rfl rfl (mV rfl (nS ?_))))))))
  refine fc (cw (mV rfl (cx (cw (lR rfl rfl rfl (cx (cw (af (ir rfl rfl) ?_))))))))
  refine cx (cw (af (bg rfl) (cx (cw (af (cg (k := 0) M0 rfl rfl rfl) (cx (cw (mV rfl ?_))))))))
  refine cx (cw ?_)
  obtain ⟨m7, l7, z⟩ := br z
  have m2 := di8 (x1 := (ix x3 f2)) (show ae.t.R zE1.p (.agg [vs zE1.p.Name, a5, a1, a0, a3, a6, a7, a4, a2]) from ⟨a5, a1, a0, a3, a6, a7, a4, a2, rfl, b2, a9, a8, b1, b4, b5, b3, b0⟩) 
  rw [l7] at m2
  refine cL m2 rfl rfl (aj (TR.clo ae.t (show ae.t.R zE1.p (.agg [vs zE1.p.Name, a5, a1, a0, a3, a6, a7, a4, a2]) from ⟨a5, a1, a0, a3, a6, a7, a4, a2, rfl, b2, a9, a8, b1, b4, b5, b3, b0⟩)) (aj rfl bh)) (cx ?_)
  have n0 : Mem h (⟨.op l3 l4 0, 118, 10, [.agg [vs zE1.p.Name, a5, a1, a0, a3, a6, a7, a4, a2, b6]]⟩ :: ⟨b6, 3, 1, b7⟩ :: R_) := (Mem.front (k := 1) (Mem.front (k := 1) M0 rfl) rfl)
  obtain ⟨m0, k5, z⟩ := br z
  obtain ⟨n3, n5, l9, k3⟩ := av3 (x0 := m7) (c0 := ({ p := zE1.p, cells := zE1.cells } : ak)) b2 a9 a8 b1 b4 b5 b3 b0 d4 d7 d2 d1 n0 (by omega)
  rw [k5] at k3
  obtain ⟨i9, h7, h1, i6, j3, j1, i8, h9, m3, l6, n1, d8, c9, c3, d9, e5, e8, e2, c6, i2, i7, i4, i5, j7⟩ := k3
  replace j7 := j7.symm; subst j7
  refine gu rfl rfl l9 ?_
  have l8 := al3 k5; try dsimp only at l8
  refine kn (cy (ap (av (bN dp rfl rfl (mV rfl (bn (cv ?_)))))))
  have s := da r3
  have o : wr (f2 + 1) = f2 + 1 := dj (by omega) (by omega)
  erw [o]
  exact wC (ih (zE1 := ({ p := m0.p, cells := m0.cells } : ak)) d8 c9 c3 d9 e5 e8 e2 c6 i2 i7 i4 i5 (by omega) (by omega) (by omega) (by omega) (Mem.sub n1 (.cons_cons _ (.cons_cons _ (List.Sublist.refl R_)))) z) rfl

theorem av5 {x0 : ak} {x1 : List aa} {x2 x3 : List Int} {v1 v2 v3 e2 d7 d4 e0 f0 f2 e1 d5 h6 : PV} {h0 : List PV} {R_ : List Ent} {h_ : Heap} {j4 j5 : Nat} (r1 : (tSl aa.t).R x1 v1) (r2 : (tSl tI).R x2 v2) (r3 : (tSl tI).R x3 v3) (b1 : (tSl bz.t).R x0.p.Headers e2) (a5 : (tSl az.t).R x0.p.Metadata d7) (a1 : (tSl cq.t).R x0.p.Registers d4) (a9 : (tSl bm.t).R x0.p.Actions e0) (b5 : (tSl bw.t).R x0.p.Tables f0) (b4 : (tSl bt.t).R x0.p.States f2) (b2 : (tSl aw.t).R x0.p.Control e1) (a4 : (tSl tI).R x0.p.Deparser d5) (j2 : All2 tI.R x0.cells h0) (g0 : isL h6 = true) (f9 : x0.cells.length ≤ 4611686018427387904) (f8 : Wri h6 h0) (M_ : Mem h_ (⟨.op j4 j5 0, 118, 10, [.agg [vs x0.p.Name, e2, d7, d4, e0, f0, f2, e1, d5, h6]]⟩ :: ⟨h6, 3, 1, h0⟩ :: R_)) (hb : x0.cells.length + x1.length + x2.length + x3.length ≤ 1000000) : ∃ r k5, FnX Tryz.prog 65 [.op j4 j5 0, v1, v2, v3] h_ r k5 ∧ RF65 j4 j5 R_ (fe x0 x1 x2 x3) r k5 := by
 refine fnXX (R := RF65 j4 j5 R_) ds1 rfl fun res z => ?_
 unfold fe at z
 refine sR (af (dw rfl rfl) (nR (af (v := .fn (.func 137) [] [.fp (.op j4 j5 0)]) (ae8 rfl rfl) (mV rfl (nS (am (sR (mV rfl ?_))))))))
 refine af (cp rfl (ca r1 Tryz.underlying75 _)) (mI rfl (nS (bf ?_)))
 refine wC (se r1 b1 a5 a1 a9 b5 b4 b2 a4 g0 f9 f8 hb ?_  (zE1 := ({ p := x0.p, cells := x0.cells } : ak)) b1 a5 a1 a9 b5 b4 b2 a4 j2 g0 f9 f8 rfl (by omega) (by omega) (by omega) (Mem.sub M_ (.cons_cons _ (.cons_cons _ (List.Sublist.refl R_)))) z) rfl
 ·intro h9 h7 g3 g1 i3 i6 i5 i1 g9 j3 j1 a6 a3 a0 a7 b0 b3 a8 a2 h3 e3 e8 e5 i0 k7 k0 z
  refine dy (ap (am (sR (mV rfl (af (cp rfl (ca r2 Tryz.underlying29 _)) (mI rfl (nS (bf ?_))))))))
  refine wC (sg r2 b1 a5 a1 a9 b5 b4 b2 a4 g0 f9 f8 hb a6 a3 a0 a7 b0 b3 a8 a2 e3 e8 e5 i0 ?_  (zE1 := ({ p := h9.p, cells := h9.cells } : ak)) a6 a3 a0 a7 b0 b3 a8 a2 h3 e3 e8 e5 rfl (by omega) (by omega) (by omega) (Mem.sub k0 (.cons_cons _ (.cons_cons _ (List.Sublist.refl R_)))) z) rfl
  ·intro h8 i2 g8 g2 h5 i4 i7 h4 h1 j6 j0 c2 b7 b6 c6 c7 d0 c3 b8 g6 f7 f6 f5 i8 k6 k4 z
   refine dy (ap (sR (mV rfl (af (cp rfl (ca r3 Tryz.underlying29 _)) (mI rfl (nS (bf ?_)))))))
   refine wC (sd r3 b1 a5 a1 a9 b5 b4 b2 a4 g0 f9 f8 hb a6 a3 a0 a7 b0 b3 a8 a2 e3 e8 e5 i0 c2 b7 b6 c6 c7 d0 c3 b8 f7 f6 f5 i8 ?_  (zE1 := ({ p := h8.p, cells := h8.cells } : ak)) c2 b7 b6 c6 c7 d0 c3 b8 g6 f7 f6 f5 rfl (by omega) (by omega) (by omega) (Mem.sub k4 (.cons_cons _ (.cons_cons _ (List.Sublist.refl R_)))) z) rfl
   ·intro i9 c8 c4 b9 c9 d2 d3 d1 c5 f3 f4 e6 d8 d6 e7 e9 f1 e4 d9 g5 g7 h2 g4 j8 k3 j9 z
    refine dy ?_
    have j7 : Mem k3 (⟨.op j4 j5 0, 118, 10, [.agg [vs i9.p.Name, c8, c4, b9, c9, d2, d3, d1, c5, f3]]⟩ :: ⟨f3, 3, 1, f4⟩ :: R_) := (Mem.front (k := 1) (Mem.front (k := 1) j9 rfl) rfl)
    subst z
    exact ah9 .nil ⟨c8, c4, b9, c9, d2, d3, d1, c5, f3, f4, Mem.sub j7 (.cons_cons _ (.cons_cons _ (List.Sublist.refl R_))), e6, d8, d6, e7, e9, f1, e4, d9, g5, g7, h2, g4, rfl⟩

end Go.Proofs.YtmonnlkagniolaaGreat
