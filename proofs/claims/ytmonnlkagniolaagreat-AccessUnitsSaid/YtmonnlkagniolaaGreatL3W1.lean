/-
 The code of each function does what its plain program says.
-/
import Derived.Test.YtmonnlkagniolaaGreatL3W0
set_option linter.unusedVariables false
set_option linter.unusedSimpArgs false
set_option maxRecDepth 100000
namespace Go.Proofs.YtmonnlkagniolaaGreat
open Go Go.Pb Go.RowKit
def RF140 (res : Int) (r : PV) : Prop := r = vi res
theorem zj {S : List Fr} {res : Int} {x0 : List Int} {v0 : PV} (r0 : (tSl tI).R x0 v0) {K0 : Unit → Int}
  (a3 : K0 () = res → PX Tryz.prog 0 S (QR Tryz.prog [(2, none)] (RF140 res)) [(3, vi 0)] ⟨0, []⟩) :
  ∀ {m : Nat} {a0 : Int} (a2 : m = Int.toNat ((x0.length : Int) - a0)) (a1 : 0 ≤ a0), ma x0 K0 m a0 = res → RC Tryz.prog (.loop bv5) S (QR Tryz.prog [(2, none)] (RF140 res)) [(8, vi a0), (7, vi (x0.length : Int)), (6, v0), (3, vi 0)] ⟨0, []⟩ := by
 intro m
 induction m with
 | zero =>
  intro a0 a2 a1 hres
  rw [ma] at hres
  refine cj (sR (bN cn rfl rfl (nS (ap ?_))))
  refine cd rfl ?_ ?_ <;> intro c <;> try simp only [qa, qaD] at c
  ·omega
  refine dl (eh (de ?_))
  exact wP (a3  hres) rfl
 | succ m ih =>
  intro a0 a2 a1 hres
  rw [ma] at hres
  refine cj (sR (bN cn rfl rfl (nS (ap ?_))))
  refine cd rfl ?_ ?_ <;> intro c <;> try simp only [qa, qaD] at c
  rotate_left
  ·omega
  refine az (au (ap (bf (sR (af (bn rfl rfl (slI r0 (by omega) (by omega))) (lR rfl rfl rfl (mV rfl (nR ?_))))))))
  refine mV rfl (mV rfl (bN ks rfl rfl (nS ?_)))
  refine bz hres rfl ?_ ?_ <;> clear hres <;> intro c hres <;> try simp only [qa, qaD] at c
  ·refine sR (mV rfl (mV rfl (nS ?_)))
   exact rR hres rfl rfl rfl
  ·refine az (cy (au (aw (bN dp rfl rfl (mV rfl (br (cx ?_)))))))
   have hbd := dc r0
   have hinc : wr (a0 + 1) = a0 + 1 := cv (by omega) (by omega)
   erw [hinc]
   exact wC (ih   (by omega) (by omega) hres) rfl

theorem az1 {x0 : List Int} {v0 : PV} (r0 : (tSl tI).R x0 v0) : FnR Tryz.prog 140 [v0] (vi (px x0)) := by
 refine fnS (R := RF140) ba8 (fun _ h => h) rfl fun res hres => ?_
 unfold px at hres
 refine sR (mI rfl (nR (mI rfl (nS (ap (sR (mV rfl (af (cq rfl (ci r0 Tryz.underlying29 _)) ?_))))))))
 refine mI rfl (nS (bf ?_))
 refine wC (zj r0 ?_  rfl (by omega) hres) rfl
 ·intro  hres
  refine em (au (sR (mV rfl (mV rfl (nS ?_)))))
  exact rR hres rfl rfl rfl

def RF139 (res : Int) (r : PV) : Prop := r = vi res
theorem ca5 {x0 : aa} {x1 : aa} {v0 v1 : PV} (r0 : aa.t.R x0 v0) (r1 : aa.t.R x1 v1) : FnR Tryz.prog 139 [v0, v1] (vi (jt x0 x1)) := by
 refine fnS (R := RF139) ao1 (fun _ h => h) rfl fun res hres => ?_
 unfold jt at hres
 refine sR (af (dn rfl (TR.cnt aa.t r0)) (af (dn rfl (TR.cnt aa.t r1)) (mI rfl (nR (fL rfl (aa.g_Header r0) rfl rfl (fL rfl (aa.g_Header r1) rfl rfl ?_))))))
 obtain ⟨a1, a3, hres⟩ := bp hres
 have a5 := aa9 (x0 := x0.Header) (x1 := x1.Header)  
 rw [a3] at a5
 refine cL a5 rfl rfl (ak rfl (ak rfl bd)) (fL rfl (aa.g_Field r0) rfl rfl (fL rfl (aa.g_Field r1) rfl rfl ?_))
 obtain ⟨a0, a4, hres⟩ := bp hres
 have a6 := aa9 (x0 := x0.Field) (x1 := x1.Field)  
 rw [a4] at a6
 refine cL a6 rfl rfl (ak rfl (ak rfl bd)) (af (v := .fs true [vi a1, vi a0]) (fk rfl (all_cons rfl (all_cons rfl iv))) ?_)
 have a8 : (tSl tI).R ([a1, a0] : List Int) (.fs true [vi a1, vi a0]) := nk ⟨rfl, ⟨rfl, trivial⟩⟩ (by simp)
 obtain ⟨a9, a7, hres⟩ := bp hres
 have a2 := az1  a8 
 rw [a7] at a2
 refine cL a2 rfl rfl (ak (TR.clo (tSl tI) a8) bd) (mV rfl (nS ?_))
 exact rR hres rfl rfl rfl

def RF179 (res : Int) (r : PV) : Prop := r = vi res
theorem ca2 {x0 : aa} {x1 : aa} {v0 v1 : PV} (r0 : aa.t.R x0 v0) (r1 : aa.t.R x1 v1) : FnR Tryz.prog 179 [v0, v1] (vi (dx x0 x1)) := by
 refine fnS (R := RF179) al9 (fun _ h => h) rfl fun res hres => ?_
 unfold dx at hres
 refine sR (af (dn rfl (TR.cnt aa.t r0)) (af (dn rfl (TR.cnt aa.t r1)) (mI rfl (nR (fL rfl (aa.g_Header r0) rfl rfl (fL rfl (aa.g_Header r1) rfl rfl ?_))))))
 obtain ⟨a1, a3, hres⟩ := bp hres
 have a5 := aa9 (x0 := x0.Header) (x1 := x1.Header)  
 rw [a3] at a5
 refine cL a5 rfl rfl (ak rfl (ak rfl bd)) (fL rfl (aa.g_Field r0) rfl rfl (fL rfl (aa.g_Field r1) rfl rfl ?_))
 obtain ⟨a0, a4, hres⟩ := bp hres
 have a6 := aa9 (x0 := x0.Field) (x1 := x1.Field)  
 rw [a4] at a6
 refine cL a6 rfl rfl (ak rfl (ak rfl bd)) (af (v := .fs true [vi a1, vi a0]) (fk rfl (all_cons rfl (all_cons rfl iv))) ?_)
 have a8 : (tSl tI).R ([a1, a0] : List Int) (.fs true [vi a1, vi a0]) := nk ⟨rfl, ⟨rfl, trivial⟩⟩ (by simp)
 obtain ⟨a9, a7, hres⟩ := bp hres
 have a2 := az1  a8 
 rw [a7] at a2
 refine cL a2 rfl rfl (ak (TR.clo (tSl tI) a8) bd) (mV rfl (nS ?_))
 exact rR hres rfl rfl rfl

def RF138139 (a0 : PV) (R_ : List Ent) (res : List aa) (r : PV) (h : Heap) : Prop := ∃ es : List PV, Mem h (⟨a0, 87, 2, es⟩ :: R_) ∧ All2 aa.t.R res es ∧ res.length ≤ 4611686018427387904 ∧ Wri a0 es ∧ r = .tup []
theorem aw2 {x0 : List aa} {a0 : PV} {a1 : List PV} {R_ : List Ent} {h_ : Heap} (q : All2 aa.t.R x0 a1) (ne : isL a0 = true) (hl : x0.length ≤ 4611686018427387904) (wi : Wri a0 a1) (M : Mem h_ (⟨a0, 87, 2, a1⟩ :: R_)) (hb : x0.length ≤ 1000000) : ∃ r a2, FnX Tryz.prog 138 [a0, .fn (.func 139) [] []] h_ r a2 ∧ RF138139 a0 R_ (jn x0) r a2 := by
 obtain ⟨r, h2, X, es', M2, q2, w2, hr⟩ := ai0 (t := aa.t) (mk := frmk) (enc := frenc) (cf := jt) am9.enters (fun x v h => h) (fun x => rfl) (fun x => rfl) (fun x => rfl) (fun x u hu => by simp [frenc] at hu; rcases hu with rfl | rfl <;> rfl) (fun x y => ca5 rfl rfl) (fun blk off cap d w hc hH hb hs => Go.Proofs.Tryz.sortF_calls frenc (fun x => rfl) (fun x u hu => by simp [frenc] at hu; rcases hu with rfl | rfl <;> rfl) jt cz3 bn6 139 ao1.enters blk off cap d w hc hH hb hs) (fun p cap w => Go.Proofs.Tryz.sortF_none p cap _ w) q ne hb wi M
 exact ⟨r, h2, X, es', M2, q2, by rw [jn, List.length_mergeSort]; exact hl, w2, hr⟩

def RF138179 (a0 : PV) (R_ : List Ent) (res : List aa) (r : PV) (h : Heap) : Prop := ∃ es : List PV, Mem h (⟨a0, 87, 2, es⟩ :: R_) ∧ All2 aa.t.R res es ∧ res.length ≤ 4611686018427387904 ∧ Wri a0 es ∧ r = .tup []
theorem ay4 {x0 : List aa} {a0 : PV} {a1 : List PV} {R_ : List Ent} {h_ : Heap} (q : All2 aa.t.R x0 a1) (ne : isL a0 = true) (hl : x0.length ≤ 4611686018427387904) (wi : Wri a0 a1) (M : Mem h_ (⟨a0, 87, 2, a1⟩ :: R_)) (hb : x0.length ≤ 1000000) : ∃ r a2, FnX Tryz.prog 138 [a0, .fn (.func 179) [] []] h_ r a2 ∧ RF138179 a0 R_ (en x0) r a2 := by
 obtain ⟨r, h2, X, es', M2, q2, w2, hr⟩ := ai0 (t := aa.t) (mk := frmk) (enc := frenc) (cf := dx) am9.enters (fun x v h => h) (fun x => rfl) (fun x => rfl) (fun x => rfl) (fun x u hu => by simp [frenc] at hu; rcases hu with rfl | rfl <;> rfl) (fun x y => ca2 rfl rfl) (fun blk off cap d w hc hH hb hs => Go.Proofs.Tryz.sortF_calls frenc (fun x => rfl) (fun x u hu => by simp [frenc] at hu; rcases hu with rfl | rfl <;> rfl) dx db6 by3 179 al9.enters blk off cap d w hc hH hb hs) (fun p cap w => Go.Proofs.Tryz.sortF_none p cap _ w) q ne hb wi M
 exact ⟨r, h2, X, es', M2, q2, by rw [en, List.length_mergeSort]; exact hl, w2, hr⟩

theorem ba4 {x0 : List aa} {a0 : PV} {a1 : List PV} {R_ : List Ent} {h_ : Heap} (q : All2 aa.t.R x0 a1) (ne : isL a0 = true) (hl : x0.length ≤ 4611686018427387904) (wi : Wri a0 a1) (M : Mem h_ (⟨a0, 87, 2, a1⟩ :: R_)) : ∃ r a2, FnX Tryz.prog 142 [a0] h_ r a2 ∧ RF142 R_ (ie x0) r a2 := bw4 q ne hl wi M

def RF66 (res : (List aa)) (r : PV) : Prop := (tSl aa.t).R res r
theorem xl {S : List Fr} {res : (List aa)} {x0 : List ae} {v0 : PV} (r0 : (tSl ae.t).R x0 v0) (hb : x0.length ≤ 1000) {K0 : (List aa) → (List aa)}
  (d2 : ∀ {zE102 : List aa} {a0 : List PV} {a1 : PV} (a5 : All2 aa.t.R zE102 a0) (a6 : isL a1 = true) (a3 : Wri a1 a0) (a4 : zE102.length ≤ 4611686018427387904) (d4 : zE102.length ≤ 1000) {h : Heap} (M0 : Mem h [⟨a1, 87, 2, a0⟩]), K0 zE102 = res → PX Tryz.prog 0 S (QR Tryz.prog [(2, none)] (RF66 res)) [(3, a1)] h) :
  ∀ {m : Nat} {a2 : Int} {zE102 : List aa} {a0 : List PV} {a1 : PV} (a5 : All2 aa.t.R zE102 a0) (a6 : isL a1 = true) (a3 : Wri a1 a0) (a4 : zE102.length ≤ 4611686018427387904) (c9 : m = Int.toNat ((x0.length : Int) - a2)) (b5 : 0 ≤ a2) (b0 : (zE102.length : Int) ≤ a2) (b1 : a2 ≤ (x0.length : Int)) {h : Heap} (M0 : Mem h [⟨a1, 87, 2, a0⟩]), ii x0 K0 m a2 zE102 = res → RC Tryz.prog (.loop cj2) S (QR Tryz.prog [(2, none)] (RF66 res)) [(8, vi a2), (7, vi (x0.length : Int)), (6, v0), (3, a1)] h := by
 have hb' := hb
 try simp only [qa, qaD] at hb'
 intro m
 induction m with
 | zero =>
  intro a2 zE102 a0 a1 a5 a6 a3 a4 c9 b5 b0 b1 h M0 hres
  rw [ii] at hres
  refine cj (sR (bN cn rfl rfl (nS (ap ?_))))
  refine cd rfl ?_ ?_ <;> intro c <;> try simp only [qa, qaD] at c
  ·omega
  refine dl (eh (de ?_))
  exact wP (d2 a5 a6 a3 a4 (by omega) (Mem.sub M0 (.cons_cons _ .slnil)) hres) rfl
 | succ m ih =>
  intro a2 zE102 a0 a1 a5 a6 a3 a4 c9 b5 b0 b1 h M0 hres
  rw [ii] at hres
  refine cj (sR (bN cn rfl rfl (nS (ap ?_))))
  refine cd rfl ?_ ?_ <;> intro c <;> try simp only [qa, qaD] at c
  rotate_left
  ·omega
  refine az (au (ap (bf (sR ?_))))
  obtain ⟨c1, c8, a8⟩ := dh (i := a2) r0 (by omega) (by omega)
  refine af (bn rfl rfl c8) (lD a8 rfl rfl rfl ?_)
  refine ek (x := .agg [vi 0, vi 0, vi 0]) M0 rfl rfl (fun c3 c6 d1 c4 => ?_)
  refine dy (k := 0) (v := c1) c4 rfl rfl rfl (TR.cnt ae.t a8) (fun b4 a7 => ?_)
  replace a7 : Mem b4 [⟨.op c3 c6 0, 113, 3, [c1]⟩, ⟨a1, 87, 2, a0⟩] := a7
  refine nR (af (ba rfl) (af (bt (k := 0) a7 rfl rfl (ae.g_Op a8)) (bN dj rfl rfl (nS ?_))))
  refine bz hres rfl ?_ ?_ <;> clear hres <;> intro c hres <;> try simp only [qa, qaD] at c
  ·refine aw (mV rfl (af (ba rfl) (af (bt (k := 0) a7 rfl rfl (ae.g_N a8)) (af (ba rfl) (af (bt (k := 0) a7 rfl rfl (ae.g_W a8)) (af (v := .agg [vi ((ix x0 a2).N), vi ((ix x0 a2).W)]) (lr (cs := [vi ((ix x0 a2).N), vi ((ix x0 a2).W)]) rfl rfl) (af (v := .fs true [.agg [vi ((ix x0 a2).N), vi ((ix x0 a2).W)]]) (fk rfl (all_cons rfl iv)) ?_)))))))
   have c2 : (tSl aa.t).R ([({ Header := (ix x0 a2).N, Field := (ix x0 a2).W } : aa)] : List aa) (.fs true [.agg [vi ((ix x0 a2).N), vi ((ix x0 a2).W)]]) := nk ⟨rfl, trivial⟩ (by simp)
   obtain ⟨a9, b8, b2⟩ := lc (t := aa.t) (h := b4) c2
   have b6 : fits (a0.length + a9.length) 16 = true := by rw [All2.length_eq a5, All2.length_eq b2]; (try simp only [List.length_cons, List.length_nil]); exact jb (by first | omega | (simp only [List.length_append, List.length_cons, List.length_nil]; omega)) (by first | omega | (simp only [List.length_append, List.length_cons, List.length_nil]; omega))
   refine jd (k := 1) (es := a0) (news := a9) a7 rfl rfl rfl a6 a3 b8 b6 (fun d3 d0 c5 b3 c7 => ?_)
   have b9 : All2 aa.t.R (zE102 ++ ([({ Header := (ix x0 a2).N, Field := (ix x0 a2).W } : aa)] : List aa)) (a0 ++ a9) := All2.app a5 b2
   have b7 : (zE102 ++ ([({ Header := (ix x0 a2).N, Field := (ix x0 a2).W } : aa)] : List aa)).length ≤ 4611686018427387904 := by rw [← All2.length_eq b9, List.length_append]; exact gz b6
   refine mV rfl (br (cy (au (aw (bN dp rfl rfl (mV rfl (br (cx ?_))))))))
   have hbd := dc r0
   have hinc : wr (a2 + 1) = a2 + 1 := cv (by omega) (by omega)
   erw [hinc]
   exact wC (ih  b9 c5 b3 b7 (by omega) (by omega) (by first | omega | (simp only [List.length_append, List.length_cons, List.length_nil]; omega)) (by first | omega | (simp only [List.length_append, List.length_cons, List.length_nil]; omega)) (Mem.sub c7 (.cons _ (.cons_cons _ .slnil))) hres) rfl
  ·refine az (cy (au (aw (bN dp rfl rfl (mV rfl (br (cx ?_)))))))
   have hbd := dc r0
   have hinc : wr (a2 + 1) = a2 + 1 := cv (by omega) (by omega)
   erw [hinc]
   exact wC (ih  a5 a6 a3 a4 (by omega) (by omega) (by first | omega | (simp only [List.length_append, List.length_cons, List.length_nil]; omega)) (by first | omega | (simp only [List.length_append, List.length_cons, List.length_nil]; omega)) (Mem.sub a7 (.cons _ (.cons_cons _ .slnil))) hres) rfl

theorem br6 {x0 : List ae} {v0 : PV} (r0 : (tSl ae.t).R x0 v0) (hb : x0.length ≤ 1000) : ∃ r, FnR Tryz.prog 66 [v0] r ∧ (tSl aa.t).R (kf x0) r := by
 refine fnT (R := RF66) br1 rfl fun res hres => ?_
 unfold kf at hres
 refine sR (af (v := nilS) (ax rfl) (nR (af (v := nilS) (ax rfl) (nS (ap (sR (mV rfl (af (cq rfl (ci r0 Tryz.underlying32 _)) ?_))))))))
 refine mI rfl (nS (bf ?_))
 have d3 := nz (sz := 2) (es := []) (Mem.nil ⟨0, []⟩) 87 (.inl ⟨none, rfl, rfl⟩) (by simp)
 refine wC (xl r0 hb ?_  aL rfl (.inl rfl) (by first | decide | simp) rfl (by omega) (by first | omega | simp) (by first | omega | simp) (Mem.sub d3 (.cons_cons _ .slnil)) hres) rfl
 ·intro a2 a3 a0 b1 a1 a4 a5 c3 d6 c9 hres
  refine em (au (ap (ep (co (mV rfl (cp ?_))))))
  have c7 : Mem d6 [⟨a0, 87, 2, a3⟩] := (Mem.front (k := 0) c9 rfl)
  obtain ⟨d5, c2, hres⟩ := bp hres
  obtain ⟨d8, d0, c1, b6⟩ := aw2 (x0 := a2) b1 a1 a5 a4 c7 (by first | assumption | omega | (rw [cv (by omega) (by omega)]; omega))
  rw [c2] at b6
  obtain ⟨a7, d7, b2, a6, a8, a9⟩ := b6
  replace a9 := a9.symm; subst a9
  refine fx rfl rfl c1 (ju (au (ap (ep (co (mV rfl (cp ?_)))))))
  have c8 : Mem d0 [⟨a0, 87, 2, a7⟩] := (Mem.front (k := 0) d7 rfl)
  obtain ⟨e1, b8, hres⟩ := bp hres
  obtain ⟨d9, e0, b9, b7⟩ := ba4 (x0 := d5) b2 a1 a6 a8 c8 
  rw [b8] at b7
  obtain ⟨c6, c4, d1, b5, b4, b3, c5, b0⟩ := b7
  replace b0 := b0.symm; subst b0
  refine fx rfl rfl b9 (co (mV rfl (cp (ju (au ?_)))))
  obtain ⟨e2, d2, d4⟩ := ov (P := Tryz.prog) (k := 0) (t := aa.t) d1 rfl b4 b5 (Nat.le_trans b3 (by decide))
  subst hres
  exact fw (.tmp rfl .nil) d2 d4

def RF143 (a0 : PV) (R_ : List Ent) (res : List Int) (r : PV) (h : Heap) : Prop := ∃ es : List PV, Mem h (⟨a0, 3, 1, es⟩ :: R_) ∧ All2 tI.R res es ∧ res.length ≤ 4611686018427387904 ∧ Wri a0 es ∧ r = .tup []
theorem ab0 {x0 : List Int} {a0 : PV} {a1 : List PV} {R_ : List Ent} {h_ : Heap} (q : All2 tI.R x0 a1) (ne : isL a0 = true) (hl : x0.length ≤ 4611686018427387904) (wi : Wri a0 a1) (M : Mem h_ (⟨a0, 3, 1, a1⟩ :: R_)) (hb : x0.length ≤ 1000000) : ∃ r a2, FnX Tryz.prog 143 [a0] h_ r a2 ∧ RF143 a0 R_ (di x0) r a2 := by
 obtain ⟨r, h2, X, es', M2, q2, w2, hr⟩ := aw8 bd1.enters Go.Proofs.Tryz.sortI_calls Go.Proofs.Tryz.sortI_none q ne hb wi M
 exact ⟨r, h2, X, es', M2, q2, by rw [di, List.length_mergeSort]; exact hl, w2, hr⟩

theorem ab9 {x0 : List Int} {a0 : PV} {a1 : List PV} {R_ : List Ent} {h_ : Heap} (q : All2 tI.R x0 a1) (ne : isL a0 = true) (hl : x0.length ≤ 4611686018427387904) (wi : Wri a0 a1) (M : Mem h_ (⟨a0, 3, 1, a1⟩ :: R_)) : ∃ r a2, FnX Tryz.prog 144 [a0] h_ r a2 ∧ RF144 R_ (je x0) r a2 := bn5 q ne hl wi M

def RF67 (res : (List Int)) (r : PV) : Prop := (tSl tI).R res r
theorem wj {S : List Fr} {res : (List Int)} {x0 : List ae} {v0 : PV} (r0 : (tSl ae.t).R x0 v0) (hb : x0.length ≤ 1000) {K0 : (List Int) → (List Int)}
  (d2 : ∀ {zE102 : List Int} {a0 : List PV} {a1 : PV} (a4 : All2 tI.R zE102 a0) (a5 : isL a1 = true) (a2 : Wri a1 a0) (a3 : zE102.length ≤ 4611686018427387904) (d4 : zE102.length ≤ 1000) {h : Heap} (M0 : Mem h [⟨a1, 3, 1, a0⟩]), K0 zE102 = res → PX Tryz.prog 0 S (QR Tryz.prog [(2, none)] (RF67 res)) [(3, a1)] h) :
  ∀ {m : Nat} {a6 : Int} {zE102 : List Int} {a0 : List PV} {a1 : PV} (a4 : All2 tI.R zE102 a0) (a5 : isL a1 = true) (a2 : Wri a1 a0) (a3 : zE102.length ≤ 4611686018427387904) (c9 : m = Int.toNat ((x0.length : Int) - a6)) (b5 : 0 ≤ a6) (b0 : (zE102.length : Int) ≤ a6) (b1 : a6 ≤ (x0.length : Int)) {h : Heap} (M0 : Mem h [⟨a1, 3, 1, a0⟩]), gw x0 K0 m a6 zE102 = res → RC Tryz.prog (.loop cd4) S (QR Tryz.prog [(2, none)] (RF67 res)) [(8, vi a6), (7, vi (x0.length : Int)), (6, v0), (3, a1)] h := by
 have hb' := hb
 try simp only [qa, qaD] at hb'
 intro m
 induction m with
 | zero =>
  intro a6 zE102 a0 a1 a4 a5 a2 a3 c9 b5 b0 b1 h M0 hres
  rw [gw] at hres
  refine cj (sR (bN cn rfl rfl (nS (ap ?_))))
  refine cd rfl ?_ ?_ <;> intro c <;> try simp only [qa, qaD] at c
  ·omega
  refine dl (eh (de ?_))
  exact wP (d2 a4 a5 a2 a3 (by omega) (Mem.sub M0 (.cons_cons _ .slnil)) hres) rfl
 | succ m ih =>
  intro a6 zE102 a0 a1 a4 a5 a2 a3 c9 b5 b0 b1 h M0 hres
  rw [gw] at hres
  refine cj (sR (bN cn rfl rfl (nS (ap ?_))))
  refine cd rfl ?_ ?_ <;> intro c <;> try simp only [qa, qaD] at c
  rotate_left
  ·omega
  refine az (au (ap (bf (sR ?_))))
  obtain ⟨c1, c8, a9⟩ := dh (i := a6) r0 (by omega) (by omega)
  refine af (bn rfl rfl c8) (lD a9 rfl rfl rfl ?_)
  refine ek (x := .agg [vi 0, vi 0, vi 0]) M0 rfl rfl (fun c3 c6 d1 c4 => ?_)
  refine dy (k := 0) (v := c1) c4 rfl rfl rfl (TR.cnt ae.t a9) (fun b4 a7 => ?_)
  replace a7 : Mem b4 [⟨.op c3 c6 0, 113, 3, [c1]⟩, ⟨a1, 3, 1, a0⟩] := a7
  refine nR (af (ba rfl) (af (bt (k := 0) a7 rfl rfl (ae.g_Op a9)) (bN dj rfl rfl (nS ?_))))
  refine bz hres rfl ?_ ?_ <;> clear hres <;> intro c hres <;> try simp only [qa, qaD] at c
  ·refine aw (mV rfl (af (ba rfl) (af (bt (k := 0) a7 rfl rfl (ae.g_N a9)) (af (v := .fs true [vi ((ix x0 a6).N)]) (fk rfl (all_cons rfl iv)) ?_))))
   have c2 : (tSl tI).R ([(ix x0 a6).N] : List Int) (.fs true [vi ((ix x0 a6).N)]) := nk ⟨rfl, trivial⟩ (by simp)
   obtain ⟨a8, b8, b2⟩ := lc (t := tI) (h := b4) c2
   have b6 : fits (a0.length + a8.length) 8 = true := by rw [All2.length_eq a4, All2.length_eq b2]; (try simp only [List.length_cons, List.length_nil]); exact jb (by first | omega | (simp only [List.length_append, List.length_cons, List.length_nil]; omega)) (by first | omega | (simp only [List.length_append, List.length_cons, List.length_nil]; omega))
   refine jd (k := 1) (es := a0) (news := a8) a7 rfl rfl rfl a5 a2 b8 b6 (fun d3 d0 c5 b3 c7 => ?_)
   have b9 : All2 tI.R (zE102 ++ ([(ix x0 a6).N] : List Int)) (a0 ++ a8) := All2.app a4 b2
   have b7 : (zE102 ++ ([(ix x0 a6).N] : List Int)).length ≤ 4611686018427387904 := by rw [← All2.length_eq b9, List.length_append]; exact gz b6
   refine mV rfl (br (cy (au (aw (bN dp rfl rfl (mV rfl (br (cx ?_))))))))
   have hbd := dc r0
   have hinc : wr (a6 + 1) = a6 + 1 := cv (by omega) (by omega)
   erw [hinc]
   exact wC (ih  b9 c5 b3 b7 (by omega) (by omega) (by first | omega | (simp only [List.length_append, List.length_cons, List.length_nil]; omega)) (by first | omega | (simp only [List.length_append, List.length_cons, List.length_nil]; omega)) (Mem.sub c7 (.cons _ (.cons_cons _ .slnil))) hres) rfl
  ·refine az (cy (au (aw (bN dp rfl rfl (mV rfl (br (cx ?_)))))))
   have hbd := dc r0
   have hinc : wr (a6 + 1) = a6 + 1 := cv (by omega) (by omega)
   erw [hinc]
   exact wC (ih  a4 a5 a2 a3 (by omega) (by omega) (by first | omega | (simp only [List.length_append, List.length_cons, List.length_nil]; omega)) (by first | omega | (simp only [List.length_append, List.length_cons, List.length_nil]; omega)) (Mem.sub a7 (.cons _ (.cons_cons _ .slnil))) hres) rfl

theorem br3 {x0 : List ae} {v0 : PV} (r0 : (tSl ae.t).R x0 v0) (hb : x0.length ≤ 1000) : ∃ r, FnR Tryz.prog 67 [v0] r ∧ (tSl tI).R (jh x0) r := by
 refine fnT (R := RF67) by0 rfl fun res hres => ?_
 unfold jh at hres
 refine sR (af (v := nilS) (ax rfl) (nR (af (v := nilS) (ax rfl) (nS (ap (sR (mV rfl (af (cq rfl (ci r0 Tryz.underlying32 _)) ?_))))))))
 refine mI rfl (nS (bf ?_))
 have d3 := nz (sz := 1) (es := []) (Mem.nil ⟨0, []⟩) 3 (.inl ⟨none, rfl, rfl⟩) (by simp)
 refine wC (wj r0 hb ?_  aL rfl (.inl rfl) (by first | decide | simp) rfl (by omega) (by first | omega | simp) (by first | omega | simp) (Mem.sub d3 (.cons_cons _ .slnil)) hres) rfl
 ·intro a2 a3 a0 b1 a1 a4 a5 c3 d6 c9 hres
  refine em (au (ap (ep (co (mV rfl (cp ?_))))))
  have c7 : Mem d6 [⟨a0, 3, 1, a3⟩] := (Mem.front (k := 0) c9 rfl)
  obtain ⟨d5, c2, hres⟩ := bp hres
  obtain ⟨d8, d0, c1, b6⟩ := ab0 (x0 := a2) b1 a1 a5 a4 c7 (by first | assumption | omega | (rw [cv (by omega) (by omega)]; omega))
  rw [c2] at b6
  obtain ⟨a7, d7, b2, a6, a8, a9⟩ := b6
  replace a9 := a9.symm; subst a9
  refine fx rfl rfl c1 (ju (au (ap (ep (co (mV rfl (cp ?_)))))))
  have c8 : Mem d0 [⟨a0, 3, 1, a7⟩] := (Mem.front (k := 0) d7 rfl)
  obtain ⟨e1, b8, hres⟩ := bp hres
  obtain ⟨d9, e0, b9, b7⟩ := ab9 (x0 := d5) b2 a1 a6 a8 c8 
  rw [b8] at b7
  obtain ⟨c6, c4, d1, b5, b4, b3, c5, b0⟩ := b7
  replace b0 := b0.symm; subst b0
  refine fx rfl rfl b9 (co (mV rfl (cp (ju (au ?_)))))
  obtain ⟨e2, d2, d4⟩ := ov (P := Tryz.prog) (k := 0) (t := tI) d1 rfl b4 b5 (Nat.le_trans b3 (by decide))
  subst hres
  exact fw (.tmp rfl .nil) d2 d4

def RF137 (i1_ w1_ : Nat) (R_ : List Ent) (res : ai) (r : PV) (h : Heap) : Prop := ∃ uF0H : PV, ∃ uF0M : PV, ∃ uF0R : PV, ∃ uF0A : PV, ∃ uF0T : PV, ∃ uF0S : PV, ∃ uF0C : PV, ∃ uF0D : PV, ∃ aF0_8 : PV, ∃ esF0_8 : List PV, Mem h (⟨.op i1_ w1_ 0, 118, 10, [.agg [vs res.p.Name, uF0H, uF0M, uF0R, uF0A, uF0T, uF0S, uF0C, uF0D, aF0_8]]⟩ :: ⟨aF0_8, 3, 1, esF0_8⟩ :: R_) ∧ ((tSl bg.t).R res.p.Headers uF0H) ∧ ((tSl ay.t).R res.p.Metadata uF0M) ∧ ((tSl cg.t).R res.p.Registers uF0R) ∧ ((tSl bc.t).R res.p.Actions uF0A) ∧ ((tSl bh.t).R res.p.Tables uF0T) ∧ ((tSl bm.t).R res.p.States uF0S) ∧ ((tSl aj.t).R res.p.Control uF0C) ∧ ((tSl tI).R res.p.Deparser uF0D) ∧ (All2 tI.R res.cells esF0_8) ∧ (isL aF0_8 = true) ∧ (res.cells.length ≤ 4611686018427387904) ∧ (Wri aF0_8 esF0_8) ∧ r = .tup []
theorem al7 {x0 : Int} {c0 : ai} {a5 a1 a0 a3 a7 a6 a4 a2 b7 : PV} {a8 : List PV} {R_ : List Ent} {h_ : Heap} {c5 c7 : Nat} (b3 : (tSl bg.t).R c0.p.Headers a5) (b0 : (tSl ay.t).R c0.p.Metadata a1) (a9 : (tSl cg.t).R c0.p.Registers a0) (b2 : (tSl bc.t).R c0.p.Actions a3) (b6 : (tSl bh.t).R c0.p.Tables a7) (b5 : (tSl bm.t).R c0.p.States a6) (b4 : (tSl aj.t).R c0.p.Control a4) (b1 : (tSl tI).R c0.p.Deparser a2) (b9 : All2 tI.R c0.cells a8) (c1 : isL b7 = true) (c8 : c0.cells.length ≤ 4611686018427387904) (c3 : Wri b7 a8) (M_ : Mem h_ (⟨.op c5 c7 0, 118, 10, [.agg [vs c0.p.Name, a5, a1, a0, a3, a7, a6, a4, a2, b7]]⟩ :: ⟨b7, 3, 1, a8⟩ :: R_)) (hb : c0.cells.length ≤ 1000000) : ∃ r e0, FnX Tryz.prog 137 [vi x0, .fp (.op c5 c7 0)] h_ r e0 ∧ RF137 c5 c7 R_ (ff x0 c0) r e0 := by
 refine fnXX (R := RF137 c5 c7 R_) bc5 rfl fun res hres => ?_
 unfold ff at hres
 refine sR (mV rfl (bN kt rfl rfl (nS ?_)))
 refine bz hres rfl ?_ ?_ <;> clear hres <;> intro c hres <;> try simp only [qa, qaD] at c
 ·refine aw (lR rfl rfl rfl (lR rfl rfl rfl (af (ib rfl rfl) (af (ba rfl) (af (bt (k := 0) M_ rfl rfl (mk1 (gj (k := 1) M_ rfl c1).2)) (mV rfl (af (v := .fs true [vi x0]) (fk rfl (all_cons rfl iv)) ?_)))))))
  have d9 : (tSl tI).R ([x0] : List Int) (.fs true [vi x0]) := nk ⟨rfl, trivial⟩ (by simp)
  obtain ⟨b8, d2, c4⟩ := lc (t := tI) (h := h_) d9
  have d1 : fits (a8.length + b8.length) 8 = true := by rw [All2.length_eq b9, All2.length_eq c4]; (try simp only [List.length_cons, List.length_nil]); exact jb (by first | omega | (simp only [List.length_append, List.length_cons, List.length_nil]; omega)) (by first | omega | (simp only [List.length_append, List.length_cons, List.length_nil]; omega))
  refine jd (k := 1) (es := a8) (news := b8) M_ rfl rfl rfl c1 c3 d2 d1 (fun c2 e1 d7 d0 c9 => ?_)
  have d6 : All2 tI.R (c0.cells ++ ([x0] : List Int)) (a8 ++ b8) := All2.app b9 c4
  have d5 : (c0.cells ++ ([x0] : List Int)).length ≤ 4611686018427387904 := by rw [← All2.length_eq d6, List.length_append]; exact gz d1
  refine af (ib rfl rfl) (af (ba rfl) ?_)
  refine iq (k := 0) (v := c2) c9 rfl rfl rfl (gj (k := 1) c9 rfl d7).1 rfl (by first | decide | (simp only [List.length_cons, List.length_nil]; omega) | simp) (fun d3 c6 => ?_)
  replace c6 : Mem d3 (⟨.op c5 c7 0, 118, 10, [.agg [vs c0.p.Name, a5, a1, a0, a3, a7, a6, a4, a2, c2]]⟩ :: ⟨c2, 3, 1, (a8 ++ b8)⟩ :: R_) := c6
  refine br ?_
  have d4 : Mem d3 (⟨.op c5 c7 0, 118, 10, [.agg [vs c0.p.Name, a5, a1, a0, a3, a7, a6, a4, a2, c2]]⟩ :: ⟨c2, 3, 1, (a8 ++ b8)⟩ :: R_) := (Mem.front (k := 1) (Mem.front (k := 1) c6 rfl) rfl)
  subst hres
  exact ab8 .nil ⟨a5, a1, a0, a3, a7, a6, a4, a2, c2, (a8 ++ b8), Mem.sub d4 (.cons_cons _ (.cons_cons _ (List.Sublist.refl R_))), b3, b0, a9, b2, b6, b5, b4, b1, d6, d7, d5, d0, rfl⟩
 ·refine az ?_
  have d8 : Mem h_ (⟨.op c5 c7 0, 118, 10, [.agg [vs c0.p.Name, a5, a1, a0, a3, a7, a6, a4, a2, b7]]⟩ :: ⟨b7, 3, 1, a8⟩ :: R_) := (Mem.front (k := 1) (Mem.front (k := 1) M_ rfl) rfl)
  subst hres
  exact ab8 .nil ⟨a5, a1, a0, a3, a7, a6, a4, a2, b7, a8, Mem.sub d8 (.cons_cons _ (.cons_cons _ (List.Sublist.refl R_))), b3, b0, a9, b2, b6, b5, b4, b1, b9, c1, c8, c3, rfl⟩

def RF163 (res : (List Int)) (r : PV) : Prop := (tAr 4 tI).R res r
theorem vg {S : List Fr} {res : (List Int)} {x0 : ab} {b8 : PV} {a5 a7 a4 a6 : Nat} (c1 : (tSl bg.t).R x0.Headers b8) {K0 : (List Int) → (List Int)}
  (d8 : ∀ {a0 : List Int} {a2 : PV} (a3 : (tAr 4 tI).R a0 a2) {h : Heap} (M0 : Mem h [⟨.op a4 a6 0, 210, 4, [a2]⟩, ⟨.op a5 a7 0, 210, 4, [.agg [vi 0, vi 0, vi 0, vi 0]]⟩]), K0 a0 = res → PX Tryz.prog 0 S (QR Tryz.prog [(2, some (4, true))] (RF163 res)) [(2, .op a5 a7 0), (3, .op a4 a6 0)] h) :
  ∀ {m : Nat} {a1 : Int} {a0 : List Int} {a2 : PV} (a3 : (tAr 4 tI).R a0 a2) (d5 : m = Int.toNat ((x0.Headers.length : Int) - a1)) (c3 : 0 ≤ a1) {h : Heap} (M0 : Mem h [⟨.op a4 a6 0, 210, 4, [a2]⟩, ⟨.op a5 a7 0, 210, 4, [.agg [vi 0, vi 0, vi 0, vi 0]]⟩]), js x0 K0 m a1 a0 = res → RC Tryz.prog (.loop bm2) S (QR Tryz.prog [(2, some (4, true))] (RF163 res)) [(19, vi a1), (18, vi (x0.Headers.length : Int)), (17, b8), (3, .op a4 a6 0), (2, .op a5 a7 0)] h := by
 intro m
 induction m with
 | zero =>
  intro a1 a0 a2 a3 d5 c3 h M0 hres
  rw [js] at hres
  refine cj (sR (bN cn rfl rfl (nS (ap ?_))))
  refine cd rfl ?_ ?_ <;> intro c <;> try simp only [qa, qaD] at c
  ·omega
  refine dl (eh (de ?_))
  exact wP (d8 a3 (Mem.sub M0 (.cons_cons _ (.cons_cons _ .slnil))) hres) rfl
 | succ m ih =>
  intro a1 a0 a2 a3 d5 c3 h M0 hres
  rw [js] at hres
  refine cj (sR (bN cn rfl rfl (nS (ap ?_))))
  refine cd rfl ?_ ?_ <;> intro c <;> try simp only [qa, qaD] at c
  rotate_left
  ·omega
  refine az (au (ap (bf (sR ?_))))
  obtain ⟨b4, d4, b6⟩ := dh (i := a1) c1 (by omega) (by omega)
  refine af (bn rfl rfl d4) (lD b6 rfl rfl rfl ?_)
  refine ek (x := .agg [vs [], nilS]) M0 rfl rfl (fun b9 c6 d6 c8 => ?_)
  refine dy (k := 0) (v := b4) c8 rfl rfl rfl (TR.cnt bg.t b6) (fun c9 b0 => ?_)
  replace b0 : Mem c9 [⟨.op b9 c6 0, 92, 2, [b4]⟩, ⟨.op a4 a6 0, 210, 4, [a2]⟩, ⟨.op a5 a7 0, 210, 4, [.agg [vi 0, vi 0, vi 0, vi 0]]⟩] := b0
  refine nS (aw ?_)
  have a8 : 0 ≤ (0 : Int) := by omega
  have b1 : (0 : Int) < 4 := by omega
  refine af (wc rfl rfl a8 b1) ?_
  obtain ⟨c7, d2, b5⟩ := bm6 (t := tI) (i := (0 : Int)) a3 a8 b1
  have b5 : c7 = vi (ix a0 (0 : Int)) := b5; subst b5
  refine af (bt (k := 1) b0 rfl rfl d2) (af (ba rfl) ?_)
  obtain ⟨d7, d1, d0⟩ := bg.g_Fields b6
  refine af (bt (k := 0) b0 rfl rfl d1) (af (cq rfl (ci d0 Tryz.underlying23 _)) (bN dp rfl rfl ?_))
  have b2 : 0 ≤ (0 : Int) := by omega
  have a9 : (0 : Int) < 4 := by omega
  refine af (wc rfl rfl b2 a9) ?_
  obtain ⟨c4, c2, b3, c5⟩ := ak4 (t := tI) (i := (0 : Int)) a3 b2 a9 (show tI.R (wr ((ix a0 (0 : Int)) + (((ix x0.Headers a1).Fields).length : Int))) (vi (wr ((ix a0 (0 : Int)) + (((ix x0.Headers a1).Fields).length : Int)))) from rfl) rfl
  refine ae7 (k := 1) (v := vi (wr ((ix a0 (0 : Int)) + (((ix x0.Headers a1).Fields).length : Int)))) b0 rfl rfl rfl c2 rfl b3.1 b3.2 (fun d3 b7 => ?_)
  replace b7 : Mem d3 [⟨.op b9 c6 0, 92, 2, [b4]⟩, ⟨.op a4 a6 0, 210, 4, [.agg (spl c4 ((0 : Int).toNat * 1) [vi (wr ((ix a0 (0 : Int)) + (((ix x0.Headers a1).Fields).length : Int)))])]⟩, ⟨.op a5 a7 0, 210, 4, [.agg [vi 0, vi 0, vi 0, vi 0]]⟩] := b7
  refine br (cy (au (aw (bN dp rfl rfl (mV rfl (br (cx ?_)))))))
  have hbd := dc c1
  have hinc : wr (a1 + 1) = a1 + 1 := cv (by omega) (by omega)
  erw [hinc]
  exact wC (ih  c5 (by omega) (by omega) (Mem.sub b7 (.cons _ (.cons_cons _ (.cons_cons _ .slnil)))) hres) rfl

theorem bd3 {x0 : ab} {v0 : PV} (r0 : ab.t.R x0 v0) : ∃ r, FnR Tryz.prog 163 [v0] r ∧ (tAr 4 tI).R (ky x0) r := by
 refine fnT (R := RF163) bb8 rfl fun res hres => ?_
 unfold ky at hres
 refine sR (af (dn rfl (TR.cnt ab.t r0)) ?_)
 refine ek (x := .agg [vi 0, vi 0, vi 0, vi 0]) (Mem.nil ⟨0, []⟩) rfl rfl (fun b0 b2 c5 b5 => ?_)
 refine nR (gL (ab.g_Headers r0) rfl rfl rfl fun c4 b9 => (af (cq rfl (ci b9 Tryz.underlying22 _)) ?_))
 obtain ⟨c6, b8, b3⟩ := ab.g_Metadata r0
 refine fA rfl b8 (lD b3 rfl rfl rfl (af (cq rfl (ci b3 Tryz.underlying23 _)) ?_))
 obtain ⟨c9, c1, a5⟩ := ab.g_Registers r0
 refine fA rfl c1 (lD a5 rfl rfl rfl (af (cq rfl (ci a5 Tryz.underlying24 _)) ?_))
 have a7 : (tAr 4 tI).R ([0, (x0.Headers.length : Int), (x0.Metadata.length : Int), (x0.Registers.length : Int)] : List Int) (.agg [vi 0, vi (x0.Headers.length : Int), vi (x0.Metadata.length : Int), vi (x0.Registers.length : Int)]) := ⟨rfl, [vi 0, vi (x0.Headers.length : Int), vi (x0.Metadata.length : Int), vi (x0.Registers.length : Int)], [vi 0, vi (x0.Headers.length : Int), vi (x0.Metadata.length : Int), vi (x0.Registers.length : Int)], ⟨rfl, ⟨rfl, ⟨rfl, ⟨rfl, trivial⟩⟩⟩⟩, rfl, rfl⟩
 refine af (v := .agg [vi 0, vi (x0.Headers.length : Int), vi (x0.Metadata.length : Int), vi (x0.Registers.length : Int)]) (lr (cs := [vi 0, vi (x0.Headers.length : Int), vi (x0.Metadata.length : Int), vi (x0.Registers.length : Int)]) rfl rfl) ?_
 refine ek (x := .agg [vi 0, vi 0, vi 0, vi 0]) b5 rfl rfl (fun a8 b1 c3 b7 => ?_)
 refine dy (k := 0) (v := .agg [vi 0, vi (x0.Headers.length : Int), vi (x0.Metadata.length : Int), vi (x0.Registers.length : Int)]) b7 rfl rfl rfl (TR.cnt (tAr 4 tI) a7) (fun b4 a3 => ?_)
 replace a3 : Mem b4 [⟨.op a8 b1 0, 210, 4, [.agg [vi 0, vi (x0.Headers.length : Int), vi (x0.Metadata.length : Int), vi (x0.Registers.length : Int)]]⟩, ⟨.op b0 b2 0, 210, 4, [.agg [vi 0, vi 0, vi 0, vi 0]]⟩] := a3
 refine nS (ap (sR (gL (ab.g_Headers r0) rfl rfl rfl fun c2 a6 => (af (cq rfl (ci a6 Tryz.underlying22 _)) (mI rfl (nS (bf ?_)))))))
 have c7 : (tAr 4 tI).R ([0, 0, 0, 0] : List Int) (.agg [vi 0, vi 0, vi 0, vi 0]) := ⟨rfl, [vi 0, vi 0, vi 0, vi 0], [vi 0, vi 0, vi 0, vi 0], ⟨rfl, ⟨rfl, ⟨rfl, ⟨rfl, trivial⟩⟩⟩⟩, rfl, rfl⟩
 refine wC (vg a6 ?_  a7 rfl (by omega) (Mem.sub a3 (.cons_cons _ (.cons_cons _ .slnil))) hres) rfl
 ·intro a4 a1 a0 c8 a9 hres
  refine em (au (sR (af (pf (k := 0) a9 rfl rfl (TR.agg (tAr 4 tI) a0)) ?_)))
  refine dy (k := 1) (v := a1) a9 rfl rfl rfl (TR.cnt (tAr 4 tI) a0) (fun b6 a2 => ?_)
  replace a2 : Mem b6 [⟨.op a8 b1 0, 210, 4, [a1]⟩, ⟨.op b0 b2 0, 210, 4, [a1]⟩] := a2
  refine nS ?_
  subst hres
  exact fw (.cell rfl (nt (k := 1) a2 rfl (TR.agg (tAr 4 tI) a0)) .nil) (dq (TR.clo (tAr 4 tI) a0)) a0

def RF135 (res : Int) (r : PV) : Prop := r = vi res
theorem vw {S : List Fr} {res : Int} {x0 : ab} {x1 : Int} {a1 : (List Int)} {a4 : PV} (a9 : ky x0 = a1) (a6 : (tAr 4 tI).R a1 a4) {K0 : Int → Int}
  (b1 : ∀ {a3 : Int}, K0 a3 = res → PX Tryz.prog 0 S (QR Tryz.prog [(4, none)] (RF135 res)) [(5, vi a3)] ⟨0, []⟩) :
  ∀ {m : Nat} {a3 a0 : Int} (b0 : m = Int.toNat (4 - a0)) (a5 : 0 ≤ a0), km x1 a1 K0 m a3 a0 = res → RC Tryz.prog (.loop bv7) S (QR Tryz.prog [(4, none)] (RF135 res)) [(10, vi a0), (9, a4), (5, vi a3), (1, vi x1)] ⟨0, []⟩ := by
 intro m
 induction m with
 | zero =>
  intro a3 a0 b0 a5 hres
  rw [km] at hres
  refine cj (sR (bN cn rfl rfl (nS (ap ?_))))
  refine cd rfl ?_ ?_ <;> intro c <;> try simp only [qa, qaD] at c
  ·omega
  refine dl (eh (de ?_))
  exact wP (b1  hres) rfl
 | succ m ih =>
  intro a3 a0 b0 a5 hres
  rw [km] at hres
  refine cj (sR (bN cn rfl rfl (nS (ap ?_))))
  refine cd rfl ?_ ?_ <;> intro c <;> try simp only [qa, qaD] at c
  rotate_left
  ·omega
  refine az (au (ap (bf (sR (mV rfl ?_)))))
  obtain ⟨a8, a7, a2⟩ := bg3 (t := tI) a6 (i := a0) (by omega) (by omega)
  have a2 : a8 = vi (ix a1 a0) := a2; subst a2
  refine af (aj4 rfl rfl a7) (mV rfl (mV rfl (nR (mV rfl (mV rfl (bN cn rfl rfl (nS ?_)))))))
  refine bz hres rfl ?_ ?_ <;> clear hres <;> intro c hres <;> try simp only [qa, qaD] at c
  ·refine aw (mV rfl (mV rfl (bN dp rfl rfl (mV rfl (br (cy (au (aw ?_))))))))
   refine bN dp rfl rfl (mV rfl (br (cx ?_)))
   have hinc : wr (a0 + 1) = a0 + 1 := cv (by omega) (by omega)
   erw [hinc]
   exact wC (ih   (by omega) (by omega) hres) rfl
  ·refine az (cy (au (aw (bN dp rfl rfl (mV rfl (br (cx ?_)))))))
   have hinc : wr (a0 + 1) = a0 + 1 := cv (by omega) (by omega)
   erw [hinc]
   exact wC (ih   (by omega) (by omega) hres) rfl

theorem co6 {x0 : ab} {x1 : Int} {v0 : PV} (r0 : ab.t.R x0 v0) : FnR Tryz.prog 135 [v0, vi x1] (vi (mr x0 x1)) := by
 refine fnS (R := RF135) bh3 (fun _ h => h) rfl fun res hres => ?_
 unfold mr at hres
 refine sR (af (dn rfl (TR.cnt ab.t r0)) (mI rfl (nR (mI rfl (nS (ap (sR (lD r0 rfl rfl rfl ?_))))))))
 obtain ⟨a5, a0, hres⟩ := bp hres
 obtain ⟨a4, a2, a1⟩ := bd3  r0 
 rw [a0] at a1
 refine cL a2 rfl rfl (ak (TR.clo ab.t r0) bd) (mI rfl (nS (bf ?_)))
 refine wC (vw a0 a1 ?_  rfl (by omega) hres) rfl
 ·intro a3 hres
  refine em (au (sR (mV rfl (mV rfl (nS ?_)))))
  exact rR hres rfl rfl rfl

def RF92 (res : Int) (r : PV) : Prop := r = vi res
theorem aw5 {x0 : ab} {x1 x2 : Int} {v0 : PV} (r0 : ab.t.R x0 v0) (hk : 0 ≤ x1 ∧ x1 ≤ 3) : FnR Tryz.prog 92 [v0, vi x1, vi x2] (vi (oh x0 x1 x2)) := by
 refine fnS (R := RF92) by8 (fun _ h => h) rfl fun res hres => ?_
 unfold oh at hres
 refine sR (af (dn rfl (TR.cnt ab.t r0)) (mI rfl (nS (ap (sR (mV rfl (bN cn rfl rfl (mV rfl ?_))))))))
 refine ca 7 (d := 16) (v := vb ((decide (x2 < 0)) || (decide ((ix (ky x0) x1) ≤ x2)))) ?_ ?_
 ·intro S Q r
  cases a4 : (decide (x2 < 0))
  ·intro k
   have a0 := a4
   try simp only [qa, qaD] at a0
   refine ah rfl rfl (ax rfl) (ah rfl rfl (bv rfl (TR.cnt ab.t r0) (TR.agg ab.t r0)) ?_)
   obtain ⟨a9, a5, a8⟩ := bd3  r0 
   refine mn rfl rfl (rp rfl rfl (ak (TR.clo ab.t r0) bd) a5) (ah rfl rfl (ax rfl) ?_)
   obtain ⟨a7, a6, a1⟩ := bg3 (t := tI) a8 (i := x1) (by omega) (by omega)
   have a1 : a7 = vi (ix (ky x0) x1) := a1; subst a1
   refine ah rfl rfl (aj4 rfl rfl a6) (ah rfl rfl (cb rfl rfl kt) ?_)
   exact gK rfl rfl rfl rfl rfl k
  ·exact gN 6 rfl rfl rfl rfl rfl rfl
 refine nS ?_
 refine bz hres rfl ?_ ?_ <;> clear hres <;> intro c hres <;> try simp only [qa, qaD] at c
 ·refine sR (mI rfl (nS ?_))
  exact rR hres rfl rfl rfl
 ·refine az (au (sR (lD r0 rfl rfl rfl (mV rfl ?_))))
  obtain ⟨b0, a2, hres⟩ := bp hres
  have a3 := co6 (x1 := x1) r0 
  rw [a2] at a3
  refine cL a3 rfl rfl (ak (TR.clo ab.t r0) (ak rfl bd)) (mV rfl (bN dp rfl rfl (mV rfl (nS ?_))))
  exact rR hres rfl rfl rfl

def RF62 (res : Int) (r : PV) : Prop := r = vi res
theorem td {S : List Fr} {res : Int} {x0 : ab} {x1 : aa} {b1 : PV} (a7 : (decide (x1.Header = (-1))) = false) (a6 : ((((decide (x1.Header < 0)) || (decide ((x0.Headers.length : Int) ≤ x1.Header))) || (decide (x1.Field < 0))) || (decide ((((ix x0.Headers x1.Header).Fields).length : Int) ≤ x1.Field))) = false) (b9 : ((sub x0.Headers 0 x1.Header).length : Int) = x1.Header - 0) (b0 : (tSl bg.t).R (sub x0.Headers 0 x1.Header) b1) {K0 : Int → Int}
  (c3 : ∀ {a5 : Int} {h : Heap} (M0 : Mem h []), K0 a5 = res → PX Tryz.prog 0 S (QR Tryz.prog [(4, none)] (RF62 res)) [(5, vi a5)] h) :
  ∀ {m : Nat} {a5 a0 : Int} (c1 : m = Int.toNat (((sub x0.Headers 0 x1.Header).length : Int) - a0)) (a9 : 0 ≤ a0) {h : Heap} (M0 : Mem h []), im x0 x1 K0 m a5 a0 = res → RC Tryz.prog (.loop cb7) S (QR Tryz.prog [(4, none)] (RF62 res)) [(52, vi a0), (51, vi ((sub x0.Headers 0 x1.Header).length : Int)), (50, b1), (5, vi a5)] h := by
 have a4 := a7
 try simp only [qa, qaD] at a4
 have a2 := a6
 try simp only [qa, qaD] at a2
 intro m
 induction m with
 | zero =>
  intro a5 a0 c1 a9 h M0 hres
  rw [im] at hres
  refine cj (sR (bN cn rfl rfl (nS (ap ?_))))
  refine cd rfl ?_ ?_ <;> intro c <;> try simp only [qa, qaD] at c
  ·omega
  refine dl (eh (de ?_))
  exact wP (c3 (Mem.sub M0 .slnil) hres) rfl
 | succ m ih =>
  intro a5 a0 c1 a9 h M0 hres
  rw [im] at hres
  refine cj (sR (bN cn rfl rfl (nS (ap ?_))))
  refine cd rfl ?_ ?_ <;> intro c <;> try simp only [qa, qaD] at c
  rotate_left
  ·omega
  refine az (au (ap (bf (sR ?_))))
  obtain ⟨a8, b4, a3⟩ := dh (i := a0) b0 (by omega) (by omega)
  refine af (bn rfl rfl b4) (lD a3 rfl rfl rfl ?_)
  refine ek (x := .agg [vs [], nilS]) M0 rfl rfl (fun b5 b3 c4 b8 => ?_)
  refine dy (k := 0) (v := a8) b8 rfl rfl rfl (TR.cnt bg.t a3) (fun b2 a1 => ?_)
  replace a1 : Mem b2 [⟨.op b5 b3 0, 92, 2, [a8]⟩] := a1
  refine nS (aw (mV rfl (af (ba rfl) ?_)))
  obtain ⟨c2, b6, b7⟩ := bg.g_Fields a3
  refine af (bt (k := 0) a1 rfl rfl b6) (af (cq rfl (ci b7 Tryz.underlying23 _)) (bN dp rfl rfl (mV rfl (br (cy (au (aw (bN dp rfl rfl ?_))))))))
  refine mV rfl (br (cx ?_))
  have hbd := dc b0
  have hinc : wr (a0 + 1) = a0 + 1 := cv (by omega) (by omega)
  erw [hinc]
  exact wC (ih   (by omega) (by omega) (Mem.sub a1 (.cons _ .slnil)) hres) rfl

theorem dc7 {x0 : ab} {x1 : aa} {v0 v1 : PV} (r0 : ab.t.R x0 v0) (r1 : aa.t.R x1 v1) : FnR Tryz.prog 62 [v0, v1] (vi (il x0 x1)) := by
 refine fnS (R := RF62) bz1 (fun _ h => h) rfl fun res hres => ?_
 unfold il at hres
 refine sR (af (dn rfl (TR.cnt ab.t r0)) (af (dn rfl (TR.cnt aa.t r1)) (mI rfl (nS (ap (sR (fL rfl (aa.g_Header r1) rfl rfl (bN (dj (b := -1)) rfl rfl ?_))))))))
 refine nS ?_
 refine bz hres rfl ?_ ?_ <;> clear hres <;> intro a2 hres <;> have a8 := a2 <;> try simp only [qa, qaD] at a8
 ·refine sR (lD r0 rfl rfl rfl (fL rfl (aa.g_Field r1) rfl rfl ?_))
  obtain ⟨d1, b2, hres⟩ := bp hres
  have b5 := aw5 (x1 := 2) (x2 := x1.Field) r0 (by first | assumption | omega | (rw [cv (by omega) (by omega)]; omega))
  rw [b2] at b5
  refine cL b5 rfl rfl (ak (TR.clo ab.t r0) (ak rfl (ak rfl bd))) (mV rfl (nS ?_))
  exact rR hres rfl rfl rfl
 ·refine az (au (ap (sR (fL rfl (aa.g_Header r1) rfl rfl (bN cn rfl rfl (mV rfl ?_))))))
  refine ca 7 (d := 25) (v := vb ((decide (x1.Header < 0)) || (decide ((x0.Headers.length : Int) ≤ x1.Header)))) ?_ ?_
  ·intro S Q r
   cases b1 : (decide (x1.Header < 0))
   ·intro k
    have a9 := b1
    try simp only [qa, qaD] at a9
    refine ah rfl rfl (bw rfl (aa.g_Header r1)) (ah rfl rfl (bv rfl rfl rfl) ?_)
    obtain ⟨d2, c2, b0⟩ := ab.g_Headers r0
    refine ah rfl rfl (bw rfl c2) (ah rfl rfl (bv rfl (TR.cnt (tSl bg.t) b0) (TR.agg (tSl bg.t) b0)) (ah rfl rfl (cq rfl (ci b0 Tryz.underlying22 _)) (ah rfl rfl (cb rfl rfl kt) ?_)))
    exact gK rfl rfl rfl rfl rfl k
   ·exact gN 6 rfl rfl rfl rfl rfl rfl
  refine mV rfl ?_
  refine ca 4 (d := 30) (v := vb (((decide (x1.Header < 0)) || (decide ((x0.Headers.length : Int) ≤ x1.Header))) || (decide (x1.Field < 0)))) ?_ ?_
  ·intro S Q r
   cases b6 : ((decide (x1.Header < 0)) || (decide ((x0.Headers.length : Int) ≤ x1.Header)))
   ·intro k
    have a5 := b6
    try simp only [qa, qaD] at a5
    refine ah rfl rfl (bw rfl (aa.g_Field r1)) (ah rfl rfl (bv rfl rfl rfl) (ah rfl rfl (cb rfl rfl cn) ?_))
    exact gK rfl rfl rfl rfl rfl k
   ·exact gN 3 rfl rfl rfl rfl rfl rfl
  refine mV rfl ?_
  refine ca 12 (d := 43) (v := vb ((((decide (x1.Header < 0)) || (decide ((x0.Headers.length : Int) ≤ x1.Header))) || (decide (x1.Field < 0))) || (decide ((((ix x0.Headers x1.Header).Fields).length : Int) ≤ x1.Field)))) ?_ ?_
  ·intro S Q r
   cases b3 : (((decide (x1.Header < 0)) || (decide ((x0.Headers.length : Int) ≤ x1.Header))) || (decide (x1.Field < 0)))
   ·intro k
    have a6 := b3
    try simp only [qa, qaD] at a6
    refine ah rfl rfl (bw rfl (aa.g_Field r1)) (ah rfl rfl (bv rfl rfl rfl) ?_)
    obtain ⟨c9, c6, a4⟩ := ab.g_Headers r0
    refine ah rfl rfl (bw rfl c6) (ah rfl rfl (bv rfl (TR.cnt (tSl bg.t) a4) (TR.agg (tSl bg.t) a4)) (ah rfl rfl (bw rfl (aa.g_Header r1)) (ah rfl rfl (bv rfl rfl rfl) ?_)))
    obtain ⟨d3, c4, b8⟩ := dh (i := x1.Header) a4 (by omega) (by omega)
    refine ah rfl rfl (bn rfl rfl c4) ?_
    obtain ⟨d4, c5, a7⟩ := bg.g_Fields b8
    refine ah rfl rfl (bw rfl c5) (ah rfl rfl (bv rfl (TR.cnt (tSl ay.t) a7) (TR.agg (tSl ay.t) a7)) (ah rfl rfl (cq rfl (ci a7 Tryz.underlying23 _)) (ah rfl rfl (cb rfl rfl kt) ?_)))
    exact gK rfl rfl rfl rfl rfl k
   ·exact gN 11 rfl rfl rfl rfl rfl rfl
  refine nS ?_
  refine bz hres rfl ?_ ?_ <;> clear hres <;> intro a1 hres <;> have a3 := a1 <;> try simp only [qa, qaD] at a3
  ·refine sR (mI rfl (nS ?_))
   exact rR hres rfl rfl rfl
  ·refine az (au (sR (fL rfl (aa.g_Field r1) rfl rfl (mV rfl (nS (ap (sR (gL (ab.g_Headers r0) rfl rfl rfl fun a0 c3 => ?_))))))))
   refine fL rfl (aa.g_Header r1) rfl rfl (uv (E0 := [(49, vi x1.Header), (48, .fp (vi x1.Header)), (47, a0), (46, .fp a0), (5, vi x1.Field), (45, vi x1.Field), (44, .fp (vi x1.Field)), (43, vb ((((decide (x1.Header < 0)) || (decide ((x0.Headers.length : Int) ≤ x1.Header))) || (decide (x1.Field < 0))) || (decide ((((ix x0.Headers x1.Header).Fields).length : Int) ≤ x1.Field)))), (31, vb (((decide (x1.Header < 0)) || (decide ((x0.Headers.length : Int) ≤ x1.Header))) || (decide (x1.Field < 0)))), (30, vb (((decide (x1.Header < 0)) || (decide ((x0.Headers.length : Int) ≤ x1.Header))) || (decide (x1.Field < 0)))), (26, vb ((decide (x1.Header < 0)) || (decide ((x0.Headers.length : Int) ≤ x1.Header)))), (25, vb ((decide (x1.Header < 0)) || (decide ((x0.Headers.length : Int) ≤ x1.Header)))), (18, vb (decide (x1.Header < 0))), (17, vb (decide (x1.Header < 0))), (16, vi x1.Header), (15, .fp (vi x1.Header)), (10, vb (decide (x1.Header = (-1)))), (9, vi x1.Header), (8, .fp (vi x1.Header)), (4, vi 0), (3, .fp v1), (2, .fp v0), (0, v0), (1, v1)]) (sB rfl) ?_)
   obtain ⟨c7, b9, b4⟩ := ao7 (P := Tryz.prog) (hf := false) (E := [(49, vi x1.Header), (48, .fp (vi x1.Header)), (47, a0), (46, .fp a0), (5, vi x1.Field), (45, vi x1.Field), (44, .fp (vi x1.Field)), (43, vb ((((decide (x1.Header < 0)) || (decide ((x0.Headers.length : Int) ≤ x1.Header))) || (decide (x1.Field < 0))) || (decide ((((ix x0.Headers x1.Header).Fields).length : Int) ≤ x1.Field)))), (31, vb (((decide (x1.Header < 0)) || (decide ((x0.Headers.length : Int) ≤ x1.Header))) || (decide (x1.Field < 0)))), (30, vb (((decide (x1.Header < 0)) || (decide ((x0.Headers.length : Int) ≤ x1.Header))) || (decide (x1.Field < 0)))), (26, vb ((decide (x1.Header < 0)) || (decide ((x0.Headers.length : Int) ≤ x1.Header)))), (25, vb ((decide (x1.Header < 0)) || (decide ((x0.Headers.length : Int) ≤ x1.Header)))), (18, vb (decide (x1.Header < 0))), (17, vb (decide (x1.Header < 0))), (16, vi x1.Header), (15, .fp (vi x1.Header)), (10, vb (decide (x1.Header = (-1)))), (9, vi x1.Header), (8, .fp (vi x1.Header)), (4, vi 0), (3, .fp v1), (2, .fp v0), (0, v0), (1, v1)]) (h := ⟨0, []⟩) (t := bg.t) (tt := 22) (x := (.tmp 47)) (lo := none) (hi := (some (.tmp 49))) (a := 0) (b := x1.Header) c3 rfl rfl rfl (show 0 ≤ 0 by omega) (show 0 ≤ x1.Header by omega) (show x1.Header ≤ (x0.Headers.length : Int) by omega) (fun ad => by kernel_rfl)
   have b7 := uy (l := x0.Headers) (show 0 ≤ 0 by omega) (show 0 ≤ x1.Header by omega) (show x1.Header ≤ (x0.Headers.length : Int) by omega)
   refine af (v := c7) (b9) (af (cq rfl (ci b4 Tryz.underlying22 _)) (mI rfl (nS (bf ?_))))
   refine wC (td a2 a1 b7 b4 ?_  rfl (by omega) (Mem.sub (Mem.nil ⟨0, []⟩) .slnil) hres) rfl
   ·intro c1 d0 c8 hres
    refine em (au (sR (mV rfl (mV rfl (nS ?_)))))
    exact rR hres rfl rfl rfl

def RF63 (res : Int) (r : PV) : Prop := r = vi res
theorem dc9 {x0 : ab} {x1 : Int} {v0 : PV} (r0 : ab.t.R x0 v0) : FnR Tryz.prog 63 [v0, vi x1] (vi (iy x0 x1)) := by
 refine fnS (R := RF63) bs9 (fun _ h => h) rfl fun res hres => ?_
 unfold iy at hres
 refine sR (af (dn rfl (TR.cnt ab.t r0)) (mI rfl (nR (lD r0 rfl rfl rfl (mV rfl ?_)))))
 obtain ⟨a2, a1, hres⟩ := bp hres
 have a0 := aw5 (x1 := 1) (x2 := x1) r0 (by first | assumption | omega | (rw [cv (by omega) (by omega)]; omega))
 rw [a1] at a0
 refine cL a0 rfl rfl (ak (TR.clo ab.t r0) (ak rfl (ak rfl bd))) (mV rfl (nS ?_))
 exact rR hres rfl rfl rfl

def RF25 (res : Int) (r : PV) : Prop := r = vi res
theorem cw8 {x0 : ab} {x1 : Int} {v0 : PV} (r0 : ab.t.R x0 v0) : FnR Tryz.prog 25 [v0, vi x1] (vi (gn x0 x1)) := by
 refine fnS (R := RF25) bw7 (fun _ h => h) rfl fun res hres => ?_
 unfold gn at hres
 refine sR (af (dn rfl (TR.cnt ab.t r0)) (mI rfl (nR (lD r0 rfl rfl rfl (mV rfl ?_)))))
 obtain ⟨a2, a1, hres⟩ := bp hres
 have a0 := aw5 (x1 := 3) (x2 := x1) r0 (by first | assumption | omega | (rw [cv (by omega) (by omega)]; omega))
 rw [a1] at a0
 refine cL a0 rfl rfl (ak (TR.clo ab.t r0) (ak rfl (ak rfl bd))) (mV rfl (nS ?_))
 exact rR hres rfl rfl rfl

def RF65 (i0_ w0_ : Nat) (R_ : List Ent) (res : ai) (r : PV) (h : Heap) : Prop := ∃ uF0H : PV, ∃ uF0M : PV, ∃ uF0R : PV, ∃ uF0A : PV, ∃ uF0T : PV, ∃ uF0S : PV, ∃ uF0C : PV, ∃ uF0D : PV, ∃ aF0_8 : PV, ∃ esF0_8 : List PV, Mem h (⟨.op i0_ w0_ 0, 118, 10, [.agg [vs res.p.Name, uF0H, uF0M, uF0R, uF0A, uF0T, uF0S, uF0C, uF0D, aF0_8]]⟩ :: ⟨aF0_8, 3, 1, esF0_8⟩ :: R_) ∧ ((tSl bg.t).R res.p.Headers uF0H) ∧ ((tSl ay.t).R res.p.Metadata uF0M) ∧ ((tSl cg.t).R res.p.Registers uF0R) ∧ ((tSl bc.t).R res.p.Actions uF0A) ∧ ((tSl bh.t).R res.p.Tables uF0T) ∧ ((tSl bm.t).R res.p.States uF0S) ∧ ((tSl aj.t).R res.p.Control uF0C) ∧ ((tSl tI).R res.p.Deparser uF0D) ∧ (All2 tI.R res.cells esF0_8) ∧ (isL aF0_8 = true) ∧ (res.cells.length ≤ 4611686018427387904) ∧ (Wri aF0_8 esF0_8) ∧ r = .tup []
theorem ql {S : List Fr} {res : ai} {x0 : ai} {x1 : List aa} {x2 x3 : List Int} {v1 v2 v3 : PV} {R_ : List Ent} {d6 d2 d1 d7 d8 d9 d5 d4 g6 : PV} {h0 : List PV} {g3 g4 : Nat} (r1 : (tSl aa.t).R x1 v1) (f5 : (tSl bg.t).R x0.p.Headers d6) (f4 : (tSl ay.t).R x0.p.Metadata d2) (f0 : (tSl cg.t).R x0.p.Registers d1) (f9 : (tSl bc.t).R x0.p.Actions d7) (g1 : (tSl bh.t).R x0.p.Tables d8) (g2 : (tSl bm.t).R x0.p.States d9) (f6 : (tSl aj.t).R x0.p.Control d5) (f1 : (tSl tI).R x0.p.Deparser d4) (i3 : isL g6 = true) (i4 : x0.cells.length ≤ 4611686018427387904) (j0 : Wri g6 h0) (hb : x0.cells.length + x1.length + x2.length + x3.length ≤ 1000000) {K0 : ai → ai}
  (j4 : ∀ {zE1 : ai} {a3 a1 a0 a4 a6 a7 a5 a2 b6 : PV} {b7 : List PV} (b3 : (tSl bg.t).R zE1.p.Headers a3) (b0 : (tSl ay.t).R zE1.p.Metadata a1) (a8 : (tSl cg.t).R zE1.p.Registers a0) (b1 : (tSl bc.t).R zE1.p.Actions a4) (b5 : (tSl bh.t).R zE1.p.Tables a6) (b4 : (tSl bm.t).R zE1.p.States a7) (b2 : (tSl aj.t).R zE1.p.Control a5) (a9 : (tSl tI).R zE1.p.Deparser a2) (c6 : All2 tI.R zE1.cells b7) (c7 : isL b6 = true) (c2 : zE1.cells.length ≤ 4611686018427387904) (c5 : Wri b6 b7) (j6 : zE1.cells.length ≤ x0.cells.length + x1.length) {h : Heap} (M0 : Mem h (⟨.op g3 g4 0, 118, 10, [.agg [vs zE1.p.Name, a3, a1, a0, a4, a6, a7, a5, a2, b6]]⟩ :: ⟨b6, 3, 1, b7⟩ :: R_)), K0 zE1 = res → PX Tryz.prog 0 S (retPost Tryz.prog [] (RF65 g3 g4 R_ res)) [(2, v2), (3, v3), (4, .fp (.op g3 g4 0)), (8, .fn (.func 137) [] [.fp (.op g3 g4 0)])] h) :
  ∀ {m : Nat} {d3 : Int} {zE1 : ai} {a3 a1 a0 a4 a6 a7 a5 a2 b6 : PV} {b7 : List PV} (b3 : (tSl bg.t).R zE1.p.Headers a3) (b0 : (tSl ay.t).R zE1.p.Metadata a1) (a8 : (tSl cg.t).R zE1.p.Registers a0) (b1 : (tSl bc.t).R zE1.p.Actions a4) (b5 : (tSl bh.t).R zE1.p.Tables a6) (b4 : (tSl bm.t).R zE1.p.States a7) (b2 : (tSl aj.t).R zE1.p.Control a5) (a9 : (tSl tI).R zE1.p.Deparser a2) (c6 : All2 tI.R zE1.cells b7) (c7 : isL b6 = true) (c2 : zE1.cells.length ≤ 4611686018427387904) (c5 : Wri b6 b7) (j1 : m = Int.toNat ((x1.length : Int) - d3)) (i1 : 0 ≤ d3) (g5 : (zE1.cells.length : Int) ≤ (x0.cells.length : Int) + d3) (g7 : d3 ≤ (x1.length : Int)) {h : Heap} (M0 : Mem h (⟨.op g3 g4 0, 118, 10, [.agg [vs zE1.p.Name, a3, a1, a0, a4, a6, a7, a5, a2, b6]]⟩ :: ⟨b6, 3, 1, b7⟩ :: R_)), fd x1 K0 m d3 zE1 = res → RC Tryz.prog (.loop ca3) S (retPost Tryz.prog [] (RF65 g3 g4 R_ res)) [(18, vi d3), (17, vi (x1.length : Int)), (16, v1), (8, .fn (.func 137) [] [.fp (.op g3 g4 0)]), (4, .fp (.op g3 g4 0)), (3, v3), (2, v2)] h := by
 have hb' := hb
 try simp only [qa, qaD] at hb'
 intro m
 induction m with
 | zero =>
  intro d3 zE1 a3 a1 a0 a4 a6 a7 a5 a2 b6 b7 b3 b0 a8 b1 b5 b4 b2 a9 c6 c7 c2 c5 j1 i1 g5 g7 h M0 hres
  rw [fd] at hres
  refine cj (sR (bN cn rfl rfl (nS (ap ?_))))
  refine cd rfl ?_ ?_ <;> intro c <;> try simp only [qa, qaD] at c
  ·omega
  refine dl (eh (de ?_))
  exact wP (j4 (zE1 := ({ p := zE1.p, cells := zE1.cells } : ai)) b3 b0 a8 b1 b5 b4 b2 a9 c6 c7 c2 c5 (by first | omega | ((try dsimp only); (try simp only [List.length_append, List.length_cons, List.length_nil]); omega) | simp) (Mem.sub M0 (.cons_cons _ (.cons_cons _ (List.Sublist.refl R_)))) hres) rfl
 | succ m ih =>
  intro d3 zE1 a3 a1 a0 a4 a6 a7 a5 a2 b6 b7 b3 b0 a8 b1 b5 b4 b2 a9 c6 c7 c2 c5 j1 i1 g5 g7 h M0 hres
  rw [fd] at hres
  refine cj (sR (bN cn rfl rfl (nS (ap ?_))))
  refine cd rfl ?_ ?_ <;> intro c <;> try simp only [qa, qaD] at c
  rotate_left
  ·omega
  refine az (au (ap (bf (sR ?_))))
  obtain ⟨h1, i7, g0⟩ := dh (i := d3) r1 (by omega) (by omega)
  refine af (bn rfl rfl i7) (lD g0 rfl rfl rfl ?_)
  refine ek (x := .agg [vi 0, vi 0]) M0 rfl rfl (fun h6 h4 j5 i5 => ?_)
  refine dy (k := 0) (v := h1) i5 rfl rfl rfl (TR.cnt aa.t g0) (fun i2 f8 => ?_)
  replace f8 : Mem i2 (⟨.op h6 h4 0, 87, 2, [h1]⟩ :: ⟨.op g3 g4 0, 118, 10, [.agg [vs zE1.p.Name, a3, a1, a0, a4, a6, a7, a5, a2, b6]]⟩ :: ⟨b6, 3, 1, b7⟩ :: R_) := f8
  refine nS (ad1 (mV rfl (lR rfl rfl rfl (af (ib rfl rfl) (af (ba rfl) (af (bt (k := 1) f8 rfl rfl rfl) (af (pf (k := 0) f8 rfl rfl (TR.agg aa.t g0)) ?_)))))))
  obtain ⟨i6, h3, hres⟩ := bp hres
  have i0 := dc7  (show ab.t.R zE1.p (.agg [vs zE1.p.Name, a3, a1, a0, a4, a6, a7, a5, a2]) from ⟨a3, a1, a0, a4, a6, a7, a5, a2, rfl, b3, b0, a8, b1, b5, b4, b2, a9⟩) g0 
  rw [h3] at i0
  refine cL i0 rfl rfl (ak (TR.clo ab.t (show ab.t.R zE1.p (.agg [vs zE1.p.Name, a3, a1, a0, a4, a6, a7, a5, a2]) from ⟨a3, a1, a0, a4, a6, a7, a5, a2, rfl, b3, b0, a8, b1, b5, b4, b2, a9⟩)) (ak (TR.clo aa.t g0) bd)) ?_
  refine br (at0 ?_)
  have i9 : Mem i2 (⟨.op g3 g4 0, 118, 10, [.agg [vs zE1.p.Name, a3, a1, a0, a4, a6, a7, a5, a2, b6]]⟩ :: ⟨b6, 3, 1, b7⟩ :: ⟨.op h6 h4 0, 87, 2, [h1]⟩ :: R_) := (Mem.front (k := 2) (Mem.front (k := 2) f8 rfl) rfl)
  obtain ⟨h8, g8, hres⟩ := bp hres
  obtain ⟨j2, j3, h9, g9⟩ := al7 (x0 := i6) (c0 := ({ p := zE1.p, cells := zE1.cells } : ai)) b3 b0 a8 b1 b5 b4 b2 a9 c6 c7 c2 c5 i9 (by first | assumption | omega | (rw [cv (by omega) (by omega)]; omega))
  rw [g8] at g9
  obtain ⟨e4, e2, e0, e5, f3, f2, e3, e1, h7, h2, i8, c3, b9, b8, c8, d0, c9, c4, c1, e6, e7, e9, e8, f7⟩ := g9
  replace f7 := f7.symm; subst f7
  refine fx rfl rfl h9 ?_
  have h5 := ac8 g8; try dsimp only at h5
  refine ju (cy (au (aw (bN dp rfl rfl (mV rfl (br (cx ?_)))))))
  have hbd := dc r1
  have hinc : wr (d3 + 1) = d3 + 1 := cv (by omega) (by omega)
  erw [hinc]
  exact wC (ih (zE1 := ({ p := h8.p, cells := h8.cells } : ai)) c3 b9 b8 c8 d0 c9 c4 c1 e6 e7 e9 e8 (by omega) (by omega) (by first | omega | ((try dsimp only); (try simp only [List.length_append, List.length_cons, List.length_nil]); omega) | simp) (by first | omega | ((try dsimp only); (try simp only [List.length_append, List.length_cons, List.length_nil]); omega) | simp) (Mem.sub i8 (.cons_cons _ (.cons_cons _ (.cons _ (List.Sublist.refl R_))))) hres) rfl

theorem qq {S : List Fr} {res : ai} {x0 : ai} {x1 : List aa} {x2 x3 : List Int} {b8 : ai} {v2 v3 : PV} {R_ : List Ent} {e5 e2 e0 e6 e8 e9 e4 e3 i2 : PV} {j0 : List PV} {d3 c2 b9 d0 d7 d6 c8 c4 e7 : PV} {f7 : List PV} {i0 i1 : Nat} (r2 : (tSl tI).R x2 v2) (h4 : (tSl bg.t).R x0.p.Headers e5) (h3 : (tSl ay.t).R x0.p.Metadata e2) (g7 : (tSl cg.t).R x0.p.Registers e0) (h7 : (tSl bc.t).R x0.p.Actions e6) (h8 : (tSl bh.t).R x0.p.Tables e8) (h9 : (tSl bm.t).R x0.p.States e9) (h5 : (tSl aj.t).R x0.p.Control e4) (h0 : (tSl tI).R x0.p.Deparser e3) (k0 : isL i2 = true) (k3 : x0.cells.length ≤ 4611686018427387904) (k5 : Wri i2 j0) (hb : x0.cells.length + x1.length + x2.length + x3.length ≤ 1000000) (f5 : (tSl bg.t).R b8.p.Headers d3) (f1 : (tSl ay.t).R b8.p.Metadata c2) (f0 : (tSl cg.t).R b8.p.Registers b9) (f4 : (tSl bc.t).R b8.p.Actions d0) (g1 : (tSl bh.t).R b8.p.Tables d7) (g0 : (tSl bm.t).R b8.p.States d6) (f3 : (tSl aj.t).R b8.p.Control c8) (f2 : (tSl tI).R b8.p.Deparser c4) (i7 : isL e7 = true) (i9 : b8.cells.length ≤ 4611686018427387904) (i8 : Wri e7 f7) (j9 : b8.cells.length ≤ x0.cells.length + x1.length) {K2 : ai → ai}
  (l0 : ∀ {zE1 : ai} {a3 a1 a0 a4 a6 a7 a5 a2 b6 : PV} {b7 : List PV} (b3 : (tSl bg.t).R zE1.p.Headers a3) (b0 : (tSl ay.t).R zE1.p.Metadata a1) (a8 : (tSl cg.t).R zE1.p.Registers a0) (b1 : (tSl bc.t).R zE1.p.Actions a4) (b5 : (tSl bh.t).R zE1.p.Tables a6) (b4 : (tSl bm.t).R zE1.p.States a7) (b2 : (tSl aj.t).R zE1.p.Control a5) (a9 : (tSl tI).R zE1.p.Deparser a2) (d1 : All2 tI.R zE1.cells b7) (d2 : isL b6 = true) (c6 : zE1.cells.length ≤ 4611686018427387904) (c9 : Wri b6 b7) (l2 : zE1.cells.length ≤ x0.cells.length + x1.length + x2.length) {h : Heap} (M0 : Mem h (⟨.op i0 i1 0, 118, 10, [.agg [vs zE1.p.Name, a3, a1, a0, a4, a6, a7, a5, a2, b6]]⟩ :: ⟨b6, 3, 1, b7⟩ :: R_)), K2 zE1 = res → PX Tryz.prog 2 S (retPost Tryz.prog [] (RF65 i0 i1 R_ res)) [(3, v3), (4, .fp (.op i0 i1 0)), (8, .fn (.func 137) [] [.fp (.op i0 i1 0)])] h) :
  ∀ {m : Nat} {e1 : Int} {zE1 : ai} {a3 a1 a0 a4 a6 a7 a5 a2 b6 : PV} {b7 : List PV} (b3 : (tSl bg.t).R zE1.p.Headers a3) (b0 : (tSl ay.t).R zE1.p.Metadata a1) (a8 : (tSl cg.t).R zE1.p.Registers a0) (b1 : (tSl bc.t).R zE1.p.Actions a4) (b5 : (tSl bh.t).R zE1.p.Tables a6) (b4 : (tSl bm.t).R zE1.p.States a7) (b2 : (tSl aj.t).R zE1.p.Control a5) (a9 : (tSl tI).R zE1.p.Deparser a2) (d1 : All2 tI.R zE1.cells b7) (d2 : isL b6 = true) (c6 : zE1.cells.length ≤ 4611686018427387904) (c9 : Wri b6 b7) (k8 : m = Int.toNat ((x2.length : Int) - e1)) (j8 : 0 ≤ e1) (i3 : (zE1.cells.length : Int) ≤ (x0.cells.length + x1.length : Int) + e1) (i6 : e1 ≤ (x2.length : Int)) {h : Heap} (M0 : Mem h (⟨.op i0 i1 0, 118, 10, [.agg [vs zE1.p.Name, a3, a1, a0, a4, a6, a7, a5, a2, b6]]⟩ :: ⟨b6, 3, 1, b7⟩ :: R_)), fc x2 K2 m e1 zE1 = res → RC Tryz.prog (.loop cg8) S (retPost Tryz.prog [] (RF65 i0 i1 R_ res)) [(33, vi e1), (32, vi (x2.length : Int)), (31, v2), (8, .fn (.func 137) [] [.fp (.op i0 i1 0)]), (4, .fp (.op i0 i1 0)), (3, v3)] h := by
 have hb' := hb
 try simp only [qa, qaD] at hb'
 intro m
 induction m with
 | zero =>
  intro e1 zE1 a3 a1 a0 a4 a6 a7 a5 a2 b6 b7 b3 b0 a8 b1 b5 b4 b2 a9 d1 d2 c6 c9 k8 j8 i3 i6 h M0 hres
  rw [fc] at hres
  refine cj (sR (bN cn rfl rfl (nS (ap ?_))))
  refine cd rfl ?_ ?_ <;> intro c <;> try simp only [qa, qaD] at c
  ·omega
  refine dl (eh (de ?_))
  exact wP (l0 (zE1 := ({ p := zE1.p, cells := zE1.cells } : ai)) b3 b0 a8 b1 b5 b4 b2 a9 d1 d2 c6 c9 (by first | omega | ((try dsimp only); (try simp only [List.length_append, List.length_cons, List.length_nil]); omega) | simp) (Mem.sub M0 (.cons_cons _ (.cons_cons _ (List.Sublist.refl R_)))) hres) rfl
 | succ m ih =>
  intro e1 zE1 a3 a1 a0 a4 a6 a7 a5 a2 b6 b7 b3 b0 a8 b1 b5 b4 b2 a9 d1 d2 c6 c9 k8 j8 i3 i6 h M0 hres
  rw [fc] at hres
  refine cj (sR (bN cn rfl rfl (nS (ap ?_))))
  refine cd rfl ?_ ?_ <;> intro c <;> try simp only [qa, qaD] at c
  rotate_left
  ·omega
  refine az (au (ap (bf (sR (af (bn rfl rfl (slI r2 (by omega) (by omega))) (lR rfl rfl rfl (mV rfl (nS ?_))))))))
  refine ep (co (mV rfl (cp (co (lR rfl rfl rfl (cp (co (af (ib rfl rfl) ?_))))))))
  refine cp (co (af (ba rfl) (cp (co (af (bt (k := 0) M0 rfl rfl rfl) (cp (co (mV rfl ?_))))))))
  refine cp (co ?_)
  obtain ⟨k4, j7, hres⟩ := bp hres
  have j6 := dc9 (x1 := (ix x2 e1)) (show ab.t.R zE1.p (.agg [vs zE1.p.Name, a3, a1, a0, a4, a6, a7, a5, a2]) from ⟨a3, a1, a0, a4, a6, a7, a5, a2, rfl, b3, b0, a8, b1, b5, b4, b2, a9⟩) 
  rw [j7] at j6
  refine cL j6 rfl rfl (ak (TR.clo ab.t (show ab.t.R zE1.p (.agg [vs zE1.p.Name, a3, a1, a0, a4, a6, a7, a5, a2]) from ⟨a3, a1, a0, a4, a6, a7, a5, a2, rfl, b3, b0, a8, b1, b5, b4, b2, a9⟩)) (ak rfl bd)) (cp ?_)
  have k7 : Mem h (⟨.op i0 i1 0, 118, 10, [.agg [vs zE1.p.Name, a3, a1, a0, a4, a6, a7, a5, a2, b6]]⟩ :: ⟨b6, 3, 1, b7⟩ :: R_) := (Mem.front (k := 1) (Mem.front (k := 1) M0 rfl) rfl)
  obtain ⟨j4, i5, hres⟩ := bp hres
  obtain ⟨k9, l1, j2, i4⟩ := al7 (x0 := k4) (c0 := ({ p := zE1.p, cells := zE1.cells } : ai)) b3 b0 a8 b1 b5 b4 b2 a9 d1 d2 c6 c9 k7 (by first | assumption | omega | (rw [cv (by omega) (by omega)]; omega))
  rw [i5] at i4
  obtain ⟨g2, f9, f6, g3, h1, h2, g8, f8, j3, j1, k6, c7, c5, c1, d5, d8, d9, d4, c3, g5, g6, g4, g9, h6⟩ := i4
  replace h6 := h6.symm; subst h6
  refine fx rfl rfl j2 ?_
  have j5 := ac8 i5; try dsimp only at j5
  refine ju (cy (au (aw (bN dp rfl rfl (mV rfl (br (cx ?_)))))))
  have hbd := dc r2
  have hinc : wr (e1 + 1) = e1 + 1 := cv (by omega) (by omega)
  erw [hinc]
  exact wC (ih (zE1 := ({ p := j4.p, cells := j4.cells } : ai)) c7 c5 c1 d5 d8 d9 d4 c3 g5 g6 g4 g9 (by omega) (by omega) (by first | omega | ((try dsimp only); (try simp only [List.length_append, List.length_cons, List.length_nil]); omega) | simp) (by first | omega | ((try dsimp only); (try simp only [List.length_append, List.length_cons, List.length_nil]); omega) | simp) (Mem.sub k6 (.cons_cons _ (.cons_cons _ (List.Sublist.refl R_)))) hres) rfl

theorem qn {S : List Fr} {res : ai} {x0 : ai} {x1 : List aa} {x2 x3 : List Int} {b8 : ai} {b9 : ai} {v3 : PV} {R_ : List Ent} {f4 f1 e9 f5 f8 f9 f3 f2 k0 : PV} {l3 : List PV} {d7 c6 c3 d4 e6 e5 d1 c9 f7 : PV} {h3 : List PV} {d2 c8 c1 e1 e8 e4 d8 c4 f6 : PV} {g6 : List PV} {k9 l4 : Nat} (r3 : (tSl tI).R x3 v3) (j3 : (tSl bg.t).R x0.p.Headers f4) (j2 : (tSl ay.t).R x0.p.Metadata f1) (i7 : (tSl cg.t).R x0.p.Registers e9) (j6 : (tSl bc.t).R x0.p.Actions f5) (j7 : (tSl bh.t).R x0.p.Tables f8) (j8 : (tSl bm.t).R x0.p.States f9) (j4 : (tSl aj.t).R x0.p.Control f3) (i9 : (tSl tI).R x0.p.Deparser f2) (m5 : isL k0 = true) (m7 : x0.cells.length ≤ 4611686018427387904) (m9 : Wri k0 l3) (hb : x0.cells.length + x1.length + x2.length + x3.length ≤ 1000000) (h1 : (tSl bg.t).R b8.p.Headers d7) (g4 : (tSl ay.t).R b8.p.Metadata c6) (g1 : (tSl cg.t).R b8.p.Registers c3) (h0 : (tSl bc.t).R b8.p.Actions d4) (h9 : (tSl bh.t).R b8.p.Tables e6) (h6 : (tSl bm.t).R b8.p.States e5) (g7 : (tSl aj.t).R b8.p.Control d1) (g5 : (tSl tI).R b8.p.Deparser c9) (k6 : isL f7 = true) (l1 : b8.cells.length ≤ 4611686018427387904) (k7 : Wri f7 h3) (m3 : b8.cells.length ≤ x0.cells.length + x1.length) (g8 : (tSl bg.t).R b9.p.Headers d2) (g3 : (tSl ay.t).R b9.p.Metadata c8) (g0 : (tSl cg.t).R b9.p.Registers c1) (h4 : (tSl bc.t).R b9.p.Actions e1) (h5 : (tSl bh.t).R b9.p.Tables e8) (h8 : (tSl bm.t).R b9.p.States e4) (h2 : (tSl aj.t).R b9.p.Control d8) (g2 : (tSl tI).R b9.p.Deparser c4) (l2 : isL f6 = true) (l0 : b9.cells.length ≤ 4611686018427387904) (k8 : Wri f6 g6) (m4 : b9.cells.length ≤ x0.cells.length + x1.length + x2.length) {K4 : ai → ai}
  (n3 : ∀ {zE1 : ai} {a3 a1 a0 a4 a6 a7 a5 a2 b6 : PV} {b7 : List PV} (b3 : (tSl bg.t).R zE1.p.Headers a3) (b0 : (tSl ay.t).R zE1.p.Metadata a1) (a8 : (tSl cg.t).R zE1.p.Registers a0) (b1 : (tSl bc.t).R zE1.p.Actions a4) (b5 : (tSl bh.t).R zE1.p.Tables a6) (b4 : (tSl bm.t).R zE1.p.States a7) (b2 : (tSl aj.t).R zE1.p.Control a5) (a9 : (tSl tI).R zE1.p.Deparser a2) (d5 : All2 tI.R zE1.cells b7) (d6 : isL b6 = true) (d0 : zE1.cells.length ≤ 4611686018427387904) (d3 : Wri b6 b7) (n5 : zE1.cells.length ≤ x0.cells.length + x1.length + x2.length + x3.length) {h : Heap} (M0 : Mem h (⟨.op k9 l4 0, 118, 10, [.agg [vs zE1.p.Name, a3, a1, a0, a4, a6, a7, a5, a2, b6]]⟩ :: ⟨b6, 3, 1, b7⟩ :: R_)), K4 zE1 = res → PX Tryz.prog 4 S (retPost Tryz.prog [] (RF65 k9 l4 R_ res)) [] h) :
  ∀ {m : Nat} {f0 : Int} {zE1 : ai} {a3 a1 a0 a4 a6 a7 a5 a2 b6 : PV} {b7 : List PV} (b3 : (tSl bg.t).R zE1.p.Headers a3) (b0 : (tSl ay.t).R zE1.p.Metadata a1) (a8 : (tSl cg.t).R zE1.p.Registers a0) (b1 : (tSl bc.t).R zE1.p.Actions a4) (b5 : (tSl bh.t).R zE1.p.Tables a6) (b4 : (tSl bm.t).R zE1.p.States a7) (b2 : (tSl aj.t).R zE1.p.Control a5) (a9 : (tSl tI).R zE1.p.Deparser a2) (d5 : All2 tI.R zE1.cells b7) (d6 : isL b6 = true) (d0 : zE1.cells.length ≤ 4611686018427387904) (d3 : Wri b6 b7) (n2 : m = Int.toNat ((x3.length : Int) - f0)) (l9 : 0 ≤ f0) (k4 : (zE1.cells.length : Int) ≤ (x0.cells.length + x1.length + x2.length : Int) + f0) (k5 : f0 ≤ (x3.length : Int)) {h : Heap} (M0 : Mem h (⟨.op k9 l4 0, 118, 10, [.agg [vs zE1.p.Name, a3, a1, a0, a4, a6, a7, a5, a2, b6]]⟩ :: ⟨b6, 3, 1, b7⟩ :: R_)), fb x3 K4 m f0 zE1 = res → RC Tryz.prog (.loop ch8) S (retPost Tryz.prog [] (RF65 k9 l4 R_ res)) [(48, vi f0), (47, vi (x3.length : Int)), (46, v3), (8, .fn (.func 137) [] [.fp (.op k9 l4 0)]), (4, .fp (.op k9 l4 0))] h := by
 have hb' := hb
 try simp only [qa, qaD] at hb'
 intro m
 induction m with
 | zero =>
  intro f0 zE1 a3 a1 a0 a4 a6 a7 a5 a2 b6 b7 b3 b0 a8 b1 b5 b4 b2 a9 d5 d6 d0 d3 n2 l9 k4 k5 h M0 hres
  rw [fb] at hres
  refine cj (sR (bN cn rfl rfl (nS (ap ?_))))
  refine cd rfl ?_ ?_ <;> intro c <;> try simp only [qa, qaD] at c
  ·omega
  refine dl (eh (de ?_))
  exact wP (n3 (zE1 := ({ p := zE1.p, cells := zE1.cells } : ai)) b3 b0 a8 b1 b5 b4 b2 a9 d5 d6 d0 d3 (by first | omega | ((try dsimp only); (try simp only [List.length_append, List.length_cons, List.length_nil]); omega) | simp) (Mem.sub M0 (.cons_cons _ (.cons_cons _ (List.Sublist.refl R_)))) hres) rfl
 | succ m ih =>
  intro f0 zE1 a3 a1 a0 a4 a6 a7 a5 a2 b6 b7 b3 b0 a8 b1 b5 b4 b2 a9 d5 d6 d0 d3 n2 l9 k4 k5 h M0 hres
  rw [fb] at hres
  refine cj (sR (bN cn rfl rfl (nS (ap ?_))))
  refine cd rfl ?_ ?_ <;> intro c <;> try simp only [qa, qaD] at c
  rotate_left
  ·omega
  refine az (au (ap (bf (sR (af (bn rfl rfl (slI r3 (by omega) (by omega))) (lR rfl rfl rfl (mV rfl (nS ?_))))))))
  refine ep (co (mV rfl (cp (co (lR rfl rfl rfl (cp (co (af (ib rfl rfl) ?_))))))))
  refine cp (co (af (ba rfl) (cp (co (af (bt (k := 0) M0 rfl rfl rfl) (cp (co (mV rfl ?_))))))))
  refine cp (co ?_)
  obtain ⟨m6, l7, hres⟩ := bp hres
  have m0 := cw8 (x1 := (ix x3 f0)) (show ab.t.R zE1.p (.agg [vs zE1.p.Name, a3, a1, a0, a4, a6, a7, a5, a2]) from ⟨a3, a1, a0, a4, a6, a7, a5, a2, rfl, b3, b0, a8, b1, b5, b4, b2, a9⟩) 
  rw [l7] at m0
  refine cL m0 rfl rfl (ak (TR.clo ab.t (show ab.t.R zE1.p (.agg [vs zE1.p.Name, a3, a1, a0, a4, a6, a7, a5, a2]) from ⟨a3, a1, a0, a4, a6, a7, a5, a2, rfl, b3, b0, a8, b1, b5, b4, b2, a9⟩)) (ak rfl bd)) (cp ?_)
  have n0 : Mem h (⟨.op k9 l4 0, 118, 10, [.agg [vs zE1.p.Name, a3, a1, a0, a4, a6, a7, a5, a2, b6]]⟩ :: ⟨b6, 3, 1, b7⟩ :: R_) := (Mem.front (k := 1) (Mem.front (k := 1) M0 rfl) rfl)
  obtain ⟨m1, k3, hres⟩ := bp hres
  obtain ⟨n1, n4, l8, j9⟩ := al7 (x0 := m6) (c0 := ({ p := zE1.p, cells := zE1.cells } : ai)) b3 b0 a8 b1 b5 b4 b2 a9 d5 d6 d0 d3 n0 (by first | assumption | omega | (rw [cv (by omega) (by omega)]; omega))
  rw [k3] at j9
  obtain ⟨i5, h7, g9, i8, j0, j1, i1, i0, m2, l5, m8, e2, c5, c2, d9, e3, e7, e0, c7, i2, i4, i3, i6, j5⟩ := j9
  replace j5 := j5.symm; subst j5
  refine fx rfl rfl l8 ?_
  have l6 := ac8 k3; try dsimp only at l6
  refine ju (cy (au (aw (bN dp rfl rfl (mV rfl (br (cx ?_)))))))
  have hbd := dc r3
  have hinc : wr (f0 + 1) = f0 + 1 := cv (by omega) (by omega)
  erw [hinc]
  exact wC (ih (zE1 := ({ p := m1.p, cells := m1.cells } : ai)) e2 c5 c2 d9 e3 e7 e0 c7 i2 i4 i3 i6 (by omega) (by omega) (by first | omega | ((try dsimp only); (try simp only [List.length_append, List.length_cons, List.length_nil]); omega) | simp) (by first | omega | ((try dsimp only); (try simp only [List.length_append, List.length_cons, List.length_nil]); omega) | simp) (Mem.sub m8 (.cons_cons _ (.cons_cons _ (List.Sublist.refl R_)))) hres) rfl

theorem ao8 {x0 : ai} {x1 : List aa} {x2 x3 : List Int} {v1 v2 v3 e0 d4 d3 e1 e8 e9 d9 d6 h4 : PV} {g7 : List PV} {R_ : List Ent} {h_ : Heap} {j2 j5 : Nat} (r1 : (tSl aa.t).R x1 v1) (r2 : (tSl tI).R x2 v2) (r3 : (tSl tI).R x3 v3) (a9 : (tSl bg.t).R x0.p.Headers e0) (a5 : (tSl ay.t).R x0.p.Metadata d4) (a1 : (tSl cg.t).R x0.p.Registers d3) (b3 : (tSl bc.t).R x0.p.Actions e1) (b4 : (tSl bh.t).R x0.p.Tables e8) (b5 : (tSl bm.t).R x0.p.States e9) (b0 : (tSl aj.t).R x0.p.Control d9) (a4 : (tSl tI).R x0.p.Deparser d6) (j0 : All2 tI.R x0.cells g7) (f7 : isL h4 = true) (f8 : x0.cells.length ≤ 4611686018427387904) (f9 : Wri h4 g7) (M_ : Mem h_ (⟨.op j2 j5 0, 118, 10, [.agg [vs x0.p.Name, e0, d4, d3, e1, e8, e9, d9, d6, h4]]⟩ :: ⟨h4, 3, 1, g7⟩ :: R_)) (hb : x0.cells.length + x1.length + x2.length + x3.length ≤ 1000000) : ∃ r k4, FnX Tryz.prog 65 [.op j2 j5 0, v1, v2, v3] h_ r k4 ∧ RF65 j2 j5 R_ (ej x0 x1 x2 x3) r k4 := by
 refine fnXX (R := RF65 j2 j5 R_) bv1 rfl fun res hres => ?_
 unfold ej at hres
 refine sR (af (dn rfl rfl) (nR (af (v := .fn (.func 137) [] [.fp (.op j2 j5 0)]) (ah6 rfl rfl) (mV rfl (nS (ap (sR (mV rfl ?_))))))))
 refine af (cq rfl (ci r1 Tryz.underlying75 _)) (mI rfl (nS (bf ?_)))
 refine wC (ql r1 a9 a5 a1 b3 b4 b5 b0 a4 f7 f8 f9 hb ?_  (zE1 := ({ p := x0.p, cells := x0.cells } : ai)) a9 a5 a1 b3 b4 b5 b0 a4 j0 f7 f8 f9 rfl (by omega) (by first | omega | ((try dsimp only); (try simp only [List.length_append, List.length_cons, List.length_nil]); omega) | simp) (by first | omega | ((try dsimp only); (try simp only [List.length_append, List.length_cons, List.length_nil]); omega) | simp) (Mem.sub M_ (.cons_cons _ (.cons_cons _ (List.Sublist.refl R_)))) hres) rfl
 ·intro h7 h9 g6 g1 h8 i5 i4 h5 h1 j4 j1 a8 a2 a0 a7 b2 b1 a6 a3 g8 e2 e6 e4 h3 k5 k3 hres
  refine em (au (ap (sR (mV rfl (af (cq rfl (ci r2 Tryz.underlying29 _)) (mI rfl (nS (bf ?_))))))))
  refine wC (qq r2 a9 a5 a1 b3 b4 b5 b0 a4 f7 f8 f9 hb a8 a2 a0 a7 b2 b1 a6 a3 e2 e6 e4 h3 ?_  (zE1 := ({ p := h7.p, cells := h7.cells } : ai)) a8 a2 a0 a7 b2 b1 a6 a3 g8 e2 e6 e4 rfl (by omega) (by first | omega | ((try dsimp only); (try simp only [List.length_append, List.length_cons, List.length_nil]); omega) | simp) (by first | omega | ((try dsimp only); (try simp only [List.length_append, List.length_cons, List.length_nil]); omega) | simp) (Mem.sub k3 (.cons_cons _ (.cons_cons _ (List.Sublist.refl R_)))) hres) rfl
  ·intro i1 h6 h0 g0 i2 i6 i3 i0 g3 j3 i9 c1 b8 b6 c5 c7 c9 c3 b7 g9 f6 f4 f3 i7 k6 j9 hres
   refine em (au (sR (mV rfl (af (cq rfl (ci r3 Tryz.underlying29 _)) (mI rfl (nS (bf ?_)))))))
   refine wC (qn r3 a9 a5 a1 b3 b4 b5 b0 a4 f7 f8 f9 hb a8 a2 a0 a7 b2 b1 a6 a3 e2 e6 e4 h3 c1 b8 b6 c5 c7 c9 c3 b7 f6 f4 f3 i7 ?_  (zE1 := ({ p := i1.p, cells := i1.cells } : ai)) c1 b8 b6 c5 c7 c9 c3 b7 g9 f6 f4 f3 rfl (by omega) (by first | omega | ((try dsimp only); (try simp only [List.length_append, List.length_cons, List.length_nil]); omega) | simp) (by first | omega | ((try dsimp only); (try simp only [List.length_append, List.length_cons, List.length_nil]); omega) | simp) (Mem.sub j9 (.cons_cons _ (.cons_cons _ (List.Sublist.refl R_)))) hres) rfl
   ·intro i8 c6 c4 b9 d0 d2 d1 c8 c2 f2 f5 e3 d8 d5 e7 f1 f0 e5 d7 g5 g4 h2 g2 j7 j8 k0 hres
    refine em ?_
    have j6 : Mem j8 (⟨.op j2 j5 0, 118, 10, [.agg [vs i8.p.Name, c6, c4, b9, d0, d2, d1, c8, c2, f2]]⟩ :: ⟨f2, 3, 1, f5⟩ :: R_) := (Mem.front (k := 1) (Mem.front (k := 1) k0 rfl) rfl)
    subst hres
    exact ab8 .nil ⟨c6, c4, b9, d0, d2, d1, c8, c2, f2, f5, Mem.sub j6 (.cons_cons _ (.cons_cons _ (List.Sublist.refl R_))), e3, d8, d5, e7, f1, f0, e5, d7, g5, g4, h2, g2, rfl⟩

end Go.Proofs.YtmonnlkagniolaaGreat
