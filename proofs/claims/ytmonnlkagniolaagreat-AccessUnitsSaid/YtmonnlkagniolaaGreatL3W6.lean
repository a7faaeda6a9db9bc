/-
 The code of each function does what its plain program says.
-/
import Derived.Test.YtmonnlkagniolaaGreatL3W5
set_option linter.unusedVariables false
set_option linter.unusedSimpArgs false
set_option maxRecDepth 100000
namespace Go.Proofs.YtmonnlkagniolaaGreat
open Go Go.Pb Go.RowKit
def RF147 (res : Int) (r : PV) : Prop := r = vi res
theorem vz {S : List Fr} {res : Int} {x0 : ab} {x1 : Int} {v0 : PV} (r0 : ab.t.R x0 v0) (hh : x1 ≤ (x0.Headers.length : Int)) (hs : x0.Headers.length ≤ 1000) {K0 : Int → Int}
  (b0 : ∀ {a1 : Int}, K0 a1 = res → PX Tryz.prog 0 S (QR Tryz.prog [(4, none)] (RF147 res)) [(5, vi a1)] ⟨0, []⟩) :
  ∀ {m : Nat} {a1 a0 : Int} (a9 : m = Int.toNat (x1 - a0)) (a3 : 0 ≤ a0), ka x0 K0 m a1 a0 = res → RC Tryz.prog (.loop bm0) S (QR Tryz.prog [(4, none)] (RF147 res)) [(6, vi a0), (5, vi a1), (2, .fp v0), (1, vi x1)] ⟨0, []⟩ := by
 intro m
 induction m with
 | zero =>
  intro a1 a0 a9 a3 hres
  rw [ka] at hres
  refine cj (ap (sR (mV rfl (mV rfl (bN cn rfl rfl (nS ?_))))))
  refine cd rfl ?_ ?_ <;> intro c <;> try simp only [qa, qaD] at c
  ·omega
  refine dl (eh (de ?_))
  exact wP (b0  hres) rfl
 | succ m ih =>
  intro a1 a0 a9 a3 hres
  rw [ka] at hres
  refine cj (ap (sR (mV rfl (mV rfl (bN cn rfl rfl (nS ?_))))))
  refine cd rfl ?_ ?_ <;> intro c <;> try simp only [qa, qaD] at c
  rotate_left
  ·omega
  refine az (au (ap (bf (aw (mV rfl ?_)))))
  obtain ⟨b1, a5, a4⟩ := ab.g_Headers r0
  refine fA rfl a5 (lD a4 rfl rfl rfl (mV rfl ?_))
  obtain ⟨b2, a6, a7⟩ := dh (i := a0) a4 (by omega) (by omega)
  refine af (bn rfl rfl a6) ?_
  obtain ⟨b3, a8, a2⟩ := bg.g_Fields a7
  refine fA rfl a8 (lD a2 rfl rfl rfl (af (cq rfl (ci a2 Tryz.underlying23 _)) (bN dp rfl rfl (mV rfl (br (cy (au (aw ?_))))))))
  refine mV rfl (bN dp rfl rfl (mV rfl (br (cx ?_))))
  have hinc : wr (a0 + 1) = a0 + 1 := cv (by omega) (by omega)
  erw [hinc]
  exact wC (ih   (by omega) (by omega) hres) rfl

theorem ac4 {x0 : ab} {x1 : Int} {v0 : PV} (r0 : ab.t.R x0 v0) (hh : x1 ≤ (x0.Headers.length : Int)) (hs : x0.Headers.length ≤ 1000) : FnR Tryz.prog 147 [v0, vi x1] (vi (lx x0 x1)) := by
 refine fnS (R := RF147) ca4 (fun _ h => h) rfl fun res hres => ?_
 unfold lx at hres
 refine sR (af (dn rfl (TR.cnt ab.t r0)) (mI rfl (nR (mI rfl (nS (ap (sR (mI rfl ?_))))))))
 refine nS (bf ?_)
 refine wC (vz r0 hh hs ?_  rfl (by omega) hres) rfl
 ·intro a0 hres
  refine em (au (sR (mV rfl (mV rfl (nS ?_)))))
  exact rR hres rfl rfl rfl

def RF74 (res : Int) (r : PV) : Prop := r = vi res
theorem bo9 {x0 : ab} {x1 : aa} {v0 v1 : PV} (r0 : ab.t.R x0 v0) (r1 : aa.t.R x1 v1) (hs : x0.Headers.length ≤ 1000) : FnR Tryz.prog 74 [v0, v1] (vi (er x0 x1)) := by
 refine fnS (R := RF74) dc5 (fun _ h => h) rfl fun res hres => ?_
 unfold er at hres
 refine sR (af (dn rfl (TR.cnt ab.t r0)) (af (dn rfl (TR.cnt aa.t r1)) (mI rfl (nS (ap (sR (fL rfl (aa.g_Header r1) rfl rfl (bN (dj (b := -1)) rfl rfl ?_))))))))
 refine mV rfl ?_
 refine ca 4 (d := 12) (v := vb ((decide (x1.Header = (-1))) && (decide (0 ≤ x1.Field)))) ?_ ?_
 ·intro S Q r
  cases b4 : (decide (x1.Header = (-1)))
  ·exact gN 3 rfl rfl rfl rfl rfl rfl
  ·intro k
   have a3 := b4
   try simp only [qa, qaD] at a3
   refine ah rfl rfl (bw rfl (aa.g_Field r1)) (ah rfl rfl (bv rfl rfl rfl) (ah rfl rfl (cb rfl rfl kt) ?_))
   exact gK rfl rfl rfl rfl rfl k
 refine mV rfl ?_
 refine ca 7 (d := 20) (v := vb (((decide (x1.Header = (-1))) && (decide (0 ≤ x1.Field))) && (decide (x1.Field < (x0.Metadata.length : Int))))) ?_ ?_
 ·intro S Q r
  cases b3 : ((decide (x1.Header = (-1))) && (decide (0 ≤ x1.Field)))
  ·exact gN 6 rfl rfl rfl rfl rfl rfl
  ·intro k
   have a7 := b3
   try simp only [qa, qaD] at a7
   refine ah rfl rfl (bw rfl (aa.g_Field r1)) (ah rfl rfl (bv rfl rfl rfl) ?_)
   obtain ⟨d0, b9, a8⟩ := ab.g_Metadata r0
   refine ah rfl rfl (bw rfl b9) (ah rfl rfl (bv rfl (TR.cnt (tSl ay.t) a8) (TR.agg (tSl ay.t) a8)) (ah rfl rfl (cq rfl (ci a8 Tryz.underlying23 _)) (ah rfl rfl (cb rfl rfl cn) ?_)))
   exact gK rfl rfl rfl rfl rfl k
 refine nS ?_
 refine bz hres rfl ?_ ?_ <;> clear hres <;> intro c hres <;> try simp only [qa, qaD] at c
 ·refine sR (lD r0 rfl rfl rfl (gL (ab.g_Headers r0) rfl rfl rfl fun d5 c2 => (af (cq rfl (ci c2 Tryz.underlying22 _)) ?_)))
  obtain ⟨d3, b0, hres⟩ := bp hres
  have b1 := ac4 (x1 := (x0.Headers.length : Int)) r0 (by first | assumption | omega | (rw [cv (by omega) (by omega)]; omega)) (by first | assumption | omega | (rw [cv (by omega) (by omega)]; omega))
  rw [b0] at b1
  refine cL b1 rfl rfl (ak (TR.clo ab.t r0) (ak rfl bd)) (gL (ab.g_Headers r0) rfl rfl rfl fun c7 b8 => (af (cq rfl (ci b8 Tryz.underlying22 _)) (bN dp rfl rfl (fL rfl (aa.g_Field r1) rfl rfl (bN dp rfl rfl (mV rfl (nS ?_)))))))
  exact rR hres rfl rfl rfl
 ·refine az (au (ap (sR (fL rfl (aa.g_Header r1) rfl rfl (bN cn rfl rfl (mV rfl ?_))))))
  refine ca 7 (d := 43) (v := vb ((decide (x1.Header < 0)) || (decide ((x0.Headers.length : Int) ≤ x1.Header)))) ?_ ?_
  ·intro S Q r
   cases b6 : (decide (x1.Header < 0))
   ·intro k
    have a2 := b6
    try simp only [qa, qaD] at a2
    refine ah rfl rfl (bw rfl (aa.g_Header r1)) (ah rfl rfl (bv rfl rfl rfl) ?_)
    obtain ⟨d4, c1, a1⟩ := ab.g_Headers r0
    refine ah rfl rfl (bw rfl c1) (ah rfl rfl (bv rfl (TR.cnt (tSl bg.t) a1) (TR.agg (tSl bg.t) a1)) (ah rfl rfl (cq rfl (ci a1 Tryz.underlying22 _)) (ah rfl rfl (cb rfl rfl kt) ?_)))
    exact gK rfl rfl rfl rfl rfl k
   ·exact gN 6 rfl rfl rfl rfl rfl rfl
  refine mV rfl ?_
  refine ca 4 (d := 48) (v := vb (((decide (x1.Header < 0)) || (decide ((x0.Headers.length : Int) ≤ x1.Header))) || (decide (x1.Field < 0)))) ?_ ?_
  ·intro S Q r
   cases b7 : ((decide (x1.Header < 0)) || (decide ((x0.Headers.length : Int) ≤ x1.Header)))
   ·intro k
    have a4 := b7
    try simp only [qa, qaD] at a4
    refine ah rfl rfl (bw rfl (aa.g_Field r1)) (ah rfl rfl (bv rfl rfl rfl) (ah rfl rfl (cb rfl rfl cn) ?_))
    exact gK rfl rfl rfl rfl rfl k
   ·exact gN 3 rfl rfl rfl rfl rfl rfl
  refine mV rfl ?_
  refine ca 12 (d := 61) (v := vb ((((decide (x1.Header < 0)) || (decide ((x0.Headers.length : Int) ≤ x1.Header))) || (decide (x1.Field < 0))) || (decide ((((ix x0.Headers x1.Header).Fields).length : Int) ≤ x1.Field)))) ?_ ?_
  ·intro S Q r
   cases a9 : (((decide (x1.Header < 0)) || (decide ((x0.Headers.length : Int) ≤ x1.Header))) || (decide (x1.Field < 0)))
   ·intro k
    have a0 := a9
    try simp only [qa, qaD] at a0
    refine ah rfl rfl (bw rfl (aa.g_Field r1)) (ah rfl rfl (bv rfl rfl rfl) ?_)
    obtain ⟨c9, c3, a5⟩ := ab.g_Headers r0
    refine ah rfl rfl (bw rfl c3) (ah rfl rfl (bv rfl (TR.cnt (tSl bg.t) a5) (TR.agg (tSl bg.t) a5)) (ah rfl rfl (bw rfl (aa.g_Header r1)) (ah rfl rfl (bv rfl rfl rfl) ?_)))
    obtain ⟨d2, c4, c5⟩ := dh (i := x1.Header) a5 (by omega) (by omega)
    refine ah rfl rfl (bn rfl rfl c4) ?_
    obtain ⟨d1, c6, a6⟩ := bg.g_Fields c5
    refine ah rfl rfl (bw rfl c6) (ah rfl rfl (bv rfl (TR.cnt (tSl ay.t) a6) (TR.agg (tSl ay.t) a6)) (ah rfl rfl (cq rfl (ci a6 Tryz.underlying23 _)) (ah rfl rfl (cb rfl rfl kt) ?_)))
    exact gK rfl rfl rfl rfl rfl k
   ·exact gN 11 rfl rfl rfl rfl rfl rfl
  refine nS ?_
  refine bz hres rfl ?_ ?_ <;> clear hres <;> intro c hres <;> try simp only [qa, qaD] at c
  ·refine sR (mI rfl (nS ?_))
   exact rR hres rfl rfl rfl
  ·refine az (au (sR (lD r0 rfl rfl rfl (fL rfl (aa.g_Header r1) rfl rfl ?_))))
   obtain ⟨c8, b5, hres⟩ := bp hres
   have b2 := ac4 (x1 := x1.Header) r0 (by first | assumption | omega | (rw [cv (by omega) (by omega)]; omega)) (by first | assumption | omega | (rw [cv (by omega) (by omega)]; omega))
   rw [b5] at b2
   refine cL b2 rfl rfl (ak (TR.clo ab.t r0) (ak rfl bd)) (fL rfl (aa.g_Field r1) rfl rfl (bN dp rfl rfl (mV rfl (nS ?_))))
   exact rR hres rfl rfl rfl

def RF73 (res : (List Int)) (r : PV) : Prop := (tSl tI).R res r
theorem vu {S : List Fr} {res : (List Int)} {x0 : List Int} {x1 : Int} {v0 : PV} (r0 : (tSl tI).R x0 v0) (hb : x0.length ≤ 2000000) {K0 : Int → (List Int)}
  (a7 : ∀ {a0 : Int} (a9 : 0 ≤ a0 ∧ a0 ≤ (x0.length : Int)), K0 a0 = res → PX Tryz.prog 0 S (QR Tryz.prog [(4, none)] (RF73 res)) [(0, v0), (1, vi x1), (5, vi a0)] ⟨0, []⟩) :
  ∀ {m : Nat} {a0 : Int} (a8 : m = Int.toNat ((x0.length : Int) - a0)) (a5 : 0 ≤ a0) (a1 : a0 ≤ (x0.length : Int)), ke x0 x1 K0 m a0 = res → RC Tryz.prog (.loop cc4) S (QR Tryz.prog [(4, none)] (RF73 res)) [(5, vi a0), (1, vi x1), (0, v0)] ⟨0, []⟩ := by
 have hb' := hb
 try simp only [qa, qaD] at hb'
 intro m
 induction m with
 | zero =>
  intro a0 a8 a5 a1 hres
  rw [ke] at hres
  refine cj (ap (sR (mV rfl (mV rfl (af (cq rfl (ci r0 Tryz.underlying29 _)) (bN cn rfl rfl (mV rfl ?_)))))))
  refine ca 7 (d := 18) (v := vb ((decide (a0 < (x0.length : Int))) && (decide ((ix x0 a0) < x1)))) ?_ ?_
  ·intro S Q r
   cases a6 : (decide (a0 < (x0.length : Int)))
   ·exact gN 6 rfl rfl rfl rfl rfl rfl
   ·intro k
    have a2 := a6
    try simp only [qa, qaD] at a2
    refine ah rfl rfl (ax rfl) (ah rfl rfl (ax rfl) (ah rfl rfl (bn rfl rfl (slI r0 (by omega) (by omega))) (ah rfl rfl (bv rfl rfl rfl) (ah rfl rfl (ax rfl) (ah rfl rfl (cb rfl rfl cn) ?_)))))
    exact gK rfl rfl rfl rfl rfl k
  refine nS ?_
  refine cd rfl ?_ ?_ <;> intro c <;> try simp only [qa, qaD] at c
  ·omega
  refine dl (eh (de ?_))
  exact wP (a7 (by omega) hres) rfl
 | succ m ih =>
  intro a0 a8 a5 a1 hres
  rw [ke] at hres
  refine cj (ap (sR (mV rfl (mV rfl (af (cq rfl (ci r0 Tryz.underlying29 _)) (bN cn rfl rfl (mV rfl ?_)))))))
  refine ca 7 (d := 18) (v := vb ((decide (a0 < (x0.length : Int))) && (decide ((ix x0 a0) < x1)))) ?_ ?_
  ·intro S Q r
   cases a4 : (decide (a0 < (x0.length : Int)))
   ·exact gN 6 rfl rfl rfl rfl rfl rfl
   ·intro k
    have a3 := a4
    try simp only [qa, qaD] at a3
    refine ah rfl rfl (ax rfl) (ah rfl rfl (ax rfl) (ah rfl rfl (bn rfl rfl (slI r0 (by omega) (by omega))) (ah rfl rfl (bv rfl rfl rfl) (ah rfl rfl (ax rfl) (ah rfl rfl (cb rfl rfl cn) ?_)))))
    exact gK rfl rfl rfl rfl rfl k
  refine nS ?_
  refine bz hres rfl ?_ ?_ <;> clear hres <;> intro c hres <;> try simp only [qa, qaD] at c
  ·refine az (au (bf (aw (mV rfl (bN dp rfl rfl (mV rfl (br (cy ?_))))))))
   refine cx ?_
   have hbd := dc r0
   have hinc : wr (a0 + 1) = a0 + 1 := cv (by omega) (by omega)
   erw [hinc]
   exact wC (ih   (by omega) (by omega) (by first | omega | (simp; done) | (simp only [List.length_append, List.length_cons, List.length_nil, List.length_set]; omega)) hres) rfl
  ·refine dl (eh (de ?_))
   exact wP (a7 (by omega) hres) rfl

theorem ap4 {x0 : List Int} {x1 : Int} {v0 : PV} (r0 : (tSl tI).R x0 v0) (hb : x0.length ≤ 2000000) : ∃ r, FnR Tryz.prog 73 [v0, vi x1] r ∧ (tSl tI).R (kx x0 x1) r := by
 refine fnT (R := RF73) cw7 rfl fun res hres => ?_
 unfold kx at hres
 refine sR (af (v := nilS) (ax rfl) (nR (mI rfl (nS (ap (bf ?_))))))
 refine wC (vu r0 hb ?_  rfl (by omega) (by first | omega | ((try dsimp only); (try simp only [List.length_append, List.length_cons, List.length_nil]); omega) | simp) hres) rfl
 ·intro a0 c9 hres
  refine em (au (ap (sR (mV rfl (bN cn rfl rfl (mV rfl ?_))))))
  refine ca 13 (d := 36) (v := vb ((decide (x1 < 0)) || ((decide (a0 < (x0.length : Int))) && (decide ((ix x0 a0) = x1))))) ?_ ?_
  ·intro S Q r
   cases c5 : (decide (x1 < 0))
   ·intro k
    have b1 := c5
    try simp only [qa, qaD] at b1
    refine ah rfl rfl (ax rfl) (ah rfl rfl (ax rfl) (ah rfl rfl (cq rfl (ci r0 Tryz.underlying29 _)) (ah rfl rfl (cb rfl rfl cn) (ah rfl rfl (ax rfl) ?_))))
    refine ca 7 (d := 35) (v := vb ((decide (a0 < (x0.length : Int))) && (decide ((ix x0 a0) = x1)))) ?_ ?_
    ·intro S Q r
     cases c7 : (decide (a0 < (x0.length : Int)))
     ·intro k
      refine ij rfl rfl (ij rfl rfl (ij rfl rfl (ij rfl rfl (ij rfl rfl (ij rfl rfl (ah (v := vb false) rfl rfl (nr rfl rfl rfl rfl) ?_))))))
      exact wD k rfl
     ·intro k
      have b2 := c7
      try simp only [qa, qaD] at b2
      refine ah rfl rfl (ax rfl) (ah rfl rfl (ax rfl) (ah rfl rfl (bn rfl rfl (slI r0 (by omega) (by omega))) (ah rfl rfl (bv rfl rfl rfl) (ah rfl rfl (ax rfl) (ah rfl rfl (cb rfl rfl dj) (ah (v := vb (decide ((ix x0 a0) = x1))) rfl rfl (nr rfl rfl rfl rfl) ?_))))))
      exact wD k rfl
    exact gK rfl rfl rfl rfl rfl k
   ·exact gN 12 rfl rfl rfl rfl rfl rfl
  refine nS ?_
  refine bz hres rfl ?_ ?_ <;> clear hres <;> intro c hres <;> try simp only [qa, qaD] at c
  ·refine sR (mV rfl (mV rfl (nS ?_)))
   exact rR hres rfl (TR.clo (tSl tI) r0) r0
  ·refine az (au (sR (af (v := .fs true []) (fk rfl iv) ?_)))
   have d5 : (tSl tI).R ([] : List Int) (.fs true []) := nk trivial (by simp)
   refine mV rfl (mV rfl (uv (E0 := [(40, vi a0), (39, v0), (38, .fs true []), (36, vb ((decide (x1 < 0)) || ((decide (a0 < (x0.length : Int))) && (decide ((ix x0 a0) = x1))))), (23, vb (decide (x1 < 0))), (22, vb (decide (x1 < 0))), (21, vi x1), (0, v0), (1, vi x1), (5, vi a0)]) (sB rfl) ?_))
   obtain ⟨a9, d4, d3⟩ := ao7 (P := Tryz.prog) (hf := false) (E := [(40, vi a0), (39, v0), (38, .fs true []), (36, vb ((decide (x1 < 0)) || ((decide (a0 < (x0.length : Int))) && (decide ((ix x0 a0) = x1))))), (23, vb (decide (x1 < 0))), (22, vb (decide (x1 < 0))), (21, vi x1), (0, v0), (1, vi x1), (5, vi a0)]) (h := ⟨0, []⟩) (t := tI) (tt := 29) (x := (.tmp 39)) (lo := none) (hi := (some (.tmp 40))) (a := 0) (b := a0) r0 rfl rfl rfl (show 0 ≤ 0 by omega) (show 0 ≤ a0 by omega) (show a0 ≤ (x0.length : Int) by omega) (fun ad => by kernel_rfl)
   have f0 := uy (l := x0) (show 0 ≤ 0 by omega) (show 0 ≤ a0 by omega) (show a0 ≤ (x0.length : Int) by omega)
   refine af (v := a9) (d4) ?_
   have e2 := d5
   have b3 : All2 tI.R ([] : List Int) ([] : List PV) := cf6 e2
   have e4 := nz (sz := 1) (es := ([] : List PV)) (Mem.nil ⟨0, []⟩) 3 (.inr rfl) (All2.cnt (t := tI) b3)
   obtain ⟨a1, c1, a7⟩ := lc (t := tI) (h := ⟨0, []⟩) d3
   have c2 : fits (([] : List PV).length + a1.length) 8 = true := by rw [All2.length_eq b3, All2.length_eq a7]; (try simp only [List.length_cons, List.length_nil]); exact jb (by first | omega | (simp only [List.length_append, List.length_cons, List.length_nil]; omega) | (simp only [sub, List.length_append, List.length_cons, List.length_nil, List.length_take, List.length_drop] at *; omega)) (by first | omega | (simp only [List.length_append, List.length_cons, List.length_nil]; omega) | (simp only [sub, List.length_append, List.length_cons, List.length_nil, List.length_take, List.length_drop] at *; omega))
   refine jd (k := 0) (es := ([] : List PV)) (news := a1) e4 rfl rfl rfl rfl (.inl rfl) c1 c2 (fun a5 e1 e6 b7 d0 => ?_)
   have b0 : All2 tI.R (sub x0 0 a0) (([] : List PV) ++ a1) := All2.app b3 a7
   have e8 : (sub x0 0 a0).length ≤ 4611686018427387904 := by rw [← All2.length_eq b0, List.length_append]; exact gz c2
   refine mV rfl (nR (mV rfl (mV rfl (af (v := .fs true [vi x1]) (fk rfl (all_cons rfl iv)) ?_))))
   have e3 : (tSl tI).R ([x1] : List Int) (.fs true [vi x1]) := nk ⟨rfl, trivial⟩ (by simp)
   obtain ⟨a2, b8, a8⟩ := lc (t := tI) (h := e1) e3
   have c6 : fits ((([] : List PV) ++ a1).length + a2.length) 8 = true := by rw [All2.length_eq b0, All2.length_eq a8]; (try simp only [List.length_cons, List.length_nil]); exact jb (by first | omega | (simp only [List.length_append, List.length_cons, List.length_nil]; omega) | (simp only [sub, List.length_append, List.length_cons, List.length_nil, List.length_take, List.length_drop] at *; omega)) (by first | omega | (simp only [List.length_append, List.length_cons, List.length_nil]; omega) | (simp only [sub, List.length_append, List.length_cons, List.length_nil, List.length_take, List.length_drop] at *; omega))
   refine jd (k := 0) (es := (([] : List PV) ++ a1)) (news := a2) d0 rfl rfl rfl e6 b7 b8 c6 (fun a3 b5 e7 b9 d2 => ?_)
   have b4 : All2 tI.R ((sub x0 0 a0) ++ ([x1] : List Int)) ((([] : List PV) ++ a1) ++ a2) := All2.app b0 a8
   have f2 : ((sub x0 0 a0) ++ ([x1] : List Int)).length ≤ 4611686018427387904 := by rw [← All2.length_eq b4, List.length_append]; exact gz c6
   refine mV rfl (nR (mV rfl (mV rfl (mV rfl (uv (E0 := [(49, vi a0), (48, v0), (47, a3), (6, a3), (46, a3), (45, .fs true [vi x1]), (44, vi x1), (43, a5), (42, a5), (41, a9), (40, vi a0), (39, v0), (38, .fs true ([] : List PV)), (36, vb ((decide (x1 < 0)) || ((decide (a0 < (x0.length : Int))) && (decide ((ix x0 a0) = x1))))), (23, vb (decide (x1 < 0))), (22, vb (decide (x1 < 0))), (21, vi x1), (0, v0), (1, vi x1), (5, vi a0)]) (sB rfl) ?_)))))
   obtain ⟨d8, d1, e0⟩ := ao7 (P := Tryz.prog) (hf := false) (E := [(49, vi a0), (48, v0), (47, a3), (6, a3), (46, a3), (45, .fs true [vi x1]), (44, vi x1), (43, a5), (42, a5), (41, a9), (40, vi a0), (39, v0), (38, .fs true ([] : List PV)), (36, vb ((decide (x1 < 0)) || ((decide (a0 < (x0.length : Int))) && (decide ((ix x0 a0) = x1))))), (23, vb (decide (x1 < 0))), (22, vb (decide (x1 < 0))), (21, vi x1), (0, v0), (1, vi x1), (5, vi a0)]) (h := b5) (t := tI) (tt := 29) (x := (.tmp 48)) (lo := (some (.tmp 49))) (hi := none) (a := a0) (b := (x0.length : Int)) r0 rfl rfl rfl (show 0 ≤ a0 by omega) (show a0 ≤ (x0.length : Int) by omega) (show (x0.length : Int) ≤ (x0.length : Int) by omega) (fun ad => by kernel_rfl)
   have f1 := uy (l := x0) (show 0 ≤ a0 by omega) (show a0 ≤ (x0.length : Int) by omega) (show (x0.length : Int) ≤ (x0.length : Int) by omega)
   refine af (v := d8) (d1) ?_
   obtain ⟨a4, c3, a6⟩ := lc (t := tI) (h := b5) e0
   have c4 : fits (((([] : List PV) ++ a1) ++ a2).length + a4.length) 8 = true := by rw [All2.length_eq b4, All2.length_eq a6]; (try simp only [List.length_cons, List.length_nil]); exact jb (by first | omega | (simp only [List.length_append, List.length_cons, List.length_nil]; omega) | (simp only [sub, List.length_append, List.length_cons, List.length_nil, List.length_take, List.length_drop] at *; omega)) (by first | omega | (simp only [List.length_append, List.length_cons, List.length_nil]; omega) | (simp only [sub, List.length_append, List.length_cons, List.length_nil, List.length_take, List.length_drop] at *; omega))
   refine jd (k := 0) (es := ((([] : List PV) ++ a1) ++ a2)) (news := a4) d2 rfl rfl rfl e7 b9 c3 c4 (fun f5 f3 e5 e9 d6 => ?_)
   have c8 : All2 tI.R (((sub x0 0 a0) ++ ([x1] : List Int)) ++ (sub x0 a0 (x0.length : Int))) (((([] : List PV) ++ a1) ++ a2) ++ a4) := All2.app b4 a6
   have b6 : (((sub x0 0 a0) ++ ([x1] : List Int)) ++ (sub x0 a0 (x0.length : Int))).length ≤ 4611686018427387904 := by rw [← All2.length_eq c8, List.length_append]; exact gz c4
   refine mV rfl (nS ?_)
   obtain ⟨f4, d7, d9⟩ := ov (P := Tryz.prog) (k := 0) (t := tI) d6 rfl e5 c8 (Nat.le_trans b6 (by decide))
   subst hres
   exact fw (.tmp rfl .nil) d7 d9

def RF145 (res : Int) (r : PV) : Prop := r = vi res
theorem cf3 {x0 : ab} {x1 : Int} {v0 : PV} (r0 : ab.t.R x0 v0) (hs : x0.Headers.length ≤ 1000) : FnR Tryz.prog 145 [v0, vi x1] (vi (gv x0 x1)) := by
 refine fnS (R := RF145) cd5 (fun _ h => h) rfl fun res hres => ?_
 unfold gv at hres
 refine sR (af (dn rfl (TR.cnt ab.t r0)) (mI rfl (nS (ap (sR (mV rfl (bN cn rfl rfl (mV rfl ?_))))))))
 refine ca 6 (d := 13) (v := vb ((decide (x1 < 0)) || (decide ((x0.Headers.length : Int) ≤ x1)))) ?_ ?_
 ·intro S Q r
  cases a3 : (decide (x1 < 0))
  ·intro k
   have a1 := a3
   try simp only [qa, qaD] at a1
   refine ah rfl rfl (ax rfl) ?_
   obtain ⟨a8, a6, a0⟩ := ab.g_Headers r0
   refine ah rfl rfl (bw rfl a6) (ah rfl rfl (bv rfl (TR.cnt (tSl bg.t) a0) (TR.agg (tSl bg.t) a0)) (ah rfl rfl (cq rfl (ci a0 Tryz.underlying22 _)) (ah rfl rfl (cb rfl rfl kt) ?_)))
   exact gK rfl rfl rfl rfl rfl k
  ·exact gN 5 rfl rfl rfl rfl rfl rfl
 refine nS ?_
 refine bz hres rfl ?_ ?_ <;> clear hres <;> intro c hres <;> try simp only [qa, qaD] at c
 ·refine sR (mI rfl (nS ?_))
  exact rR hres rfl rfl rfl
 ·refine az (au (sR (lD r0 rfl rfl rfl ?_)))
  obtain ⟨b0, a7, a5⟩ := ab.g_Headers r0
  refine fA rfl a7 (lD a5 rfl rfl rfl (af (cq rfl (ci a5 Tryz.underlying22 _)) ?_))
  obtain ⟨a9, a4, hres⟩ := bp hres
  have a2 := ac4 (x1 := (x0.Headers.length : Int)) r0 (by first | assumption | omega | (rw [cv (by omega) (by omega)]; omega)) (by first | assumption | omega | (rw [cv (by omega) (by omega)]; omega))
  rw [a4] at a2
  refine cL a2 rfl rfl (ak (TR.clo ab.t r0) (ak rfl bd)) (mV rfl (bN dp rfl rfl (mV rfl (nS ?_))))
  exact rR hres rfl rfl rfl

def RF146 (res : Int) (r : PV) : Prop := r = vi res
theorem ce2 {x0 : ab} {x1 : Int} {v0 : PV} (r0 : ab.t.R x0 v0) (hs : x0.Headers.length ≤ 1000) : FnR Tryz.prog 146 [v0, vi x1] (vi (gi x0 x1)) := by
 refine fnS (R := RF146) ch5 (fun _ h => h) rfl fun res hres => ?_
 unfold gi at hres
 refine sR (af (dn rfl (TR.cnt ab.t r0)) (mI rfl (nS (ap (sR (mV rfl (bN cn rfl rfl (mV rfl ?_))))))))
 refine ca 6 (d := 13) (v := vb ((decide (x1 < 0)) || (decide ((x0.Registers.length : Int) ≤ x1)))) ?_ ?_
 ·intro S Q r
  cases a3 : (decide (x1 < 0))
  ·intro k
   have a1 := a3
   try simp only [qa, qaD] at a1
   refine ah rfl rfl (ax rfl) ?_
   obtain ⟨a9, a6, a0⟩ := ab.g_Registers r0
   refine ah rfl rfl (bw rfl a6) (ah rfl rfl (bv rfl (TR.cnt (tSl cg.t) a0) (TR.agg (tSl cg.t) a0)) (ah rfl rfl (cq rfl (ci a0 Tryz.underlying24 _)) (ah rfl rfl (cb rfl rfl kt) ?_)))
   exact gK rfl rfl rfl rfl rfl k
  ·exact gN 5 rfl rfl rfl rfl rfl rfl
 refine nS ?_
 refine bz hres rfl ?_ ?_ <;> clear hres <;> intro c hres <;> try simp only [qa, qaD] at c
 ·refine sR (mI rfl (nS ?_))
  exact rR hres rfl rfl rfl
 ·refine az (au (sR (lD r0 rfl rfl rfl (gL (ab.g_Headers r0) rfl rfl rfl fun b2 a8 => (af (cq rfl (ci a8 Tryz.underlying22 _)) ?_)))))
  obtain ⟨b1, a4, hres⟩ := bp hres
  have a2 := ac4 (x1 := (x0.Headers.length : Int)) r0 (by first | assumption | omega | (rw [cv (by omega) (by omega)]; omega)) (by first | assumption | omega | (rw [cv (by omega) (by omega)]; omega))
  rw [a4] at a2
  refine cL a2 rfl rfl (ak (TR.clo ab.t r0) (ak rfl bd)) (gL (ab.g_Headers r0) rfl rfl rfl fun b3 a7 => (af (cq rfl (ci a7 Tryz.underlying22 _)) (bN dp rfl rfl (gL (ab.g_Metadata r0) rfl rfl rfl fun b0 a5 => (af (cq rfl (ci a5 Tryz.underlying23 _)) (bN dp rfl rfl (mV rfl (bN dp rfl rfl ?_))))))))
  refine mV rfl (nS ?_)
  exact rR hres rfl rfl rfl

def RF70 (res : (List Int)) (r : PV) : Prop := (tSl tI).R res r
theorem vv {S : List Fr} {res : (List Int)} {x0 : ab} {x1 : List Int} {x2 : List aa} {x3 x4 : List Int} {v0 v2 v3 v4 : PV} (r0 : ab.t.R x0 v0) (r2 : (tSl aa.t).R x2 v2) (hs : x0.Headers.length ≤ 1000) (hb : x1.length + x2.length + x3.length + x4.length ≤ 2000000) {K0 : (List Int) → (List Int)}
  (b8 : ∀ {a1 : List Int} {a5 : PV} (a7 : (tSl tI).R a1 a5) (c2 : (a1.length : Int) ≤ x1.length + x2.length), K0 a1 = res → PX Tryz.prog 0 S (QR Tryz.prog [(10, none)] (RF70 res)) [(1, a5), (3, v3), (4, v4), (5, .fp v0)] ⟨0, []⟩) :
  ∀ {m : Nat} {a1 : List Int} {a0 : Int} {a5 : PV} (a7 : (tSl tI).R a1 a5) (b6 : m = Int.toNat ((x2.length : Int) - a0)) (b0 : 0 ≤ a0) (a2 : (a1.length : Int) ≤ (x1.length : Int) + a0) (a3 : a0 ≤ (x2.length : Int)), jz x0 x2 K0 m a1 a0 = res → RC Tryz.prog (.loop cp5) S (QR Tryz.prog [(10, none)] (RF70 res)) [(11, vi a0), (5, .fp v0), (4, v4), (3, v3), (2, v2), (1, a5)] ⟨0, []⟩ := by
 have hb' := hb
 try simp only [qa, qaD] at hb'
 intro m
 induction m with
 | zero =>
  intro a1 a0 a5 a7 b6 b0 a2 a3 hres
  rw [jz] at hres
  refine cj (ap (sR (mV rfl (mV rfl (af (cq rfl (ci r2 Tryz.underlying75 _)) (bN cn rfl rfl (nS ?_)))))))
  refine cd rfl ?_ ?_ <;> intro c <;> try simp only [qa, qaD] at c
  ·omega
  refine dl (eh (de ?_))
  exact wP (b8 a7 (by first | omega | ((try dsimp only); (try simp only [List.length_append, List.length_cons, List.length_nil]); omega) | simp) hres) rfl
 | succ m ih =>
  intro a1 a0 a5 a7 b6 b0 a2 a3 hres
  rw [jz] at hres
  refine cj (ap (sR (mV rfl (mV rfl (af (cq rfl (ci r2 Tryz.underlying75 _)) (bN cn rfl rfl (nS ?_)))))))
  refine cd rfl ?_ ?_ <;> intro c <;> try simp only [qa, qaD] at c
  rotate_left
  ·omega
  refine az (au (ap (bf (aw (mV rfl (lD r0 rfl rfl rfl (mV rfl (mV rfl ?_))))))))
  obtain ⟨b9, b2, a6⟩ := dh (i := a0) r2 (by omega) (by omega)
  refine af (bn rfl rfl b2) (lD a6 rfl rfl rfl ?_)
  obtain ⟨b3, b1, hres⟩ := bp hres
  have a8 := bo9  r0 a6 (by first | assumption | omega | (rw [cv (by omega) (by omega)]; omega))
  rw [b1] at a8
  refine cL a8 rfl rfl (ak (TR.clo ab.t r0) (ak (TR.clo aa.t a6) bd)) ?_
  obtain ⟨b7, a4, hres⟩ := bp hres
  obtain ⟨c1, b4, a9⟩ := ap4 (x1 := b3) a7 (by first | assumption | omega | (rw [cv (by omega) (by omega)]; omega))
  rw [a4] at a9
  have b5 := sq a4 (by omega)
  refine cL b4 rfl rfl (ak (TR.clo (tSl tI) a7) (ak rfl bd)) (mV rfl (br (cy (au (aw (mV rfl (bN dp rfl rfl (mV rfl ?_))))))))
  refine br (cx ?_)
  have hbd := dc r2
  have hinc : wr (a0 + 1) = a0 + 1 := cv (by omega) (by omega)
  erw [hinc]
  exact wC (ih  a9 (by omega) (by omega) (by first | omega | ((try dsimp only); (try simp only [List.length_append, List.length_cons, List.length_nil]); omega) | simp) (by first | omega | ((try dsimp only); (try simp only [List.length_append, List.length_cons, List.length_nil]); omega) | simp) hres) rfl

theorem wo {S : List Fr} {res : (List Int)} {x0 : ab} {x1 : List Int} {x2 : List aa} {x3 x4 a6 : List Int} {v0 v3 v4 : PV} (r0 : ab.t.R x0 v0) (r3 : (tSl tI).R x3 v3) (hs : x0.Headers.length ≤ 1000) (hb : x1.length + x2.length + x3.length + x4.length ≤ 2000000) (b2 : (a6.length : Int) ≤ x1.length + x2.length) {K2 : (List Int) → (List Int)}
  (b8 : ∀ {a1 : List Int} {a5 : PV} (a7 : (tSl tI).R a1 a5) (c1 : (a1.length : Int) ≤ x1.length + x2.length + x3.length), K2 a1 = res → PX Tryz.prog 2 S (QR Tryz.prog [(10, none)] (RF70 res)) [(1, a5), (4, v4), (5, .fp v0)] ⟨0, []⟩) :
  ∀ {m : Nat} {a1 : List Int} {a0 : Int} {a5 : PV} (a7 : (tSl tI).R a1 a5) (b6 : m = Int.toNat ((x3.length : Int) - a0)) (b0 : 0 ≤ a0) (a2 : (a1.length : Int) ≤ (x1.length + x2.length : Int) + a0) (a3 : a0 ≤ (x3.length : Int)), ko x0 x3 K2 m a1 a0 = res → RC Tryz.prog (.loop cg7) S (QR Tryz.prog [(10, none)] (RF70 res)) [(12, vi a0), (5, .fp v0), (4, v4), (3, v3), (1, a5)] ⟨0, []⟩ := by
 have hb' := hb
 try simp only [qa, qaD] at hb'
 intro m
 induction m with
 | zero =>
  intro a1 a0 a5 a7 b6 b0 a2 a3 hres
  rw [ko] at hres
  refine cj (ap (sR (mV rfl (mV rfl (af (cq rfl (ci r3 Tryz.underlying29 _)) (bN cn rfl rfl (nS ?_)))))))
  refine cd rfl ?_ ?_ <;> intro c <;> try simp only [qa, qaD] at c
  ·omega
  refine dl (eh (de ?_))
  exact wP (b8 a7 (by first | omega | ((try dsimp only); (try simp only [List.length_append, List.length_cons, List.length_nil]); omega) | simp) hres) rfl
 | succ m ih =>
  intro a1 a0 a5 a7 b6 b0 a2 a3 hres
  rw [ko] at hres
  refine cj (ap (sR (mV rfl (mV rfl (af (cq rfl (ci r3 Tryz.underlying29 _)) (bN cn rfl rfl (nS ?_)))))))
  refine cd rfl ?_ ?_ <;> intro c <;> try simp only [qa, qaD] at c
  rotate_left
  ·omega
  refine az (au (ap (bf (aw (mV rfl (lD r0 rfl rfl rfl (mV rfl (mV rfl ?_))))))))
  refine af (bn rfl rfl (slI r3 (by omega) (by omega))) (lR rfl rfl rfl ?_)
  obtain ⟨b4, a8, hres⟩ := bp hres
  have b1 := cf3 (x1 := (ix x3 a0)) r0 (by first | assumption | omega | (rw [cv (by omega) (by omega)]; omega))
  rw [a8] at b1
  refine cL b1 rfl rfl (ak (TR.clo ab.t r0) (ak rfl bd)) ?_
  obtain ⟨b7, a4, hres⟩ := bp hres
  obtain ⟨b9, b3, a9⟩ := ap4 (x1 := b4) a7 (by first | assumption | omega | (rw [cv (by omega) (by omega)]; omega))
  rw [a4] at a9
  have b5 := sq a4 (by omega)
  refine cL b3 rfl rfl (ak (TR.clo (tSl tI) a7) (ak rfl bd)) (mV rfl (br (cy (au (aw (mV rfl (bN dp rfl rfl (mV rfl ?_))))))))
  refine br (cx ?_)
  have hbd := dc r3
  have hinc : wr (a0 + 1) = a0 + 1 := cv (by omega) (by omega)
  erw [hinc]
  exact wC (ih  a9 (by omega) (by omega) (by first | omega | ((try dsimp only); (try simp only [List.length_append, List.length_cons, List.length_nil]); omega) | simp) (by first | omega | ((try dsimp only); (try simp only [List.length_append, List.length_cons, List.length_nil]); omega) | simp) hres) rfl

theorem wv {S : List Fr} {res : (List Int)} {x0 : ab} {x1 : List Int} {x2 : List aa} {x3 x4 a7 a5 : List Int} {v0 v4 : PV} (r0 : ab.t.R x0 v0) (r4 : (tSl tI).R x4 v4) (hs : x0.Headers.length ≤ 1000) (hb : x1.length + x2.length + x3.length + x4.length ≤ 2000000) (b4 : (a7.length : Int) ≤ x1.length + x2.length) (b3 : (a5.length : Int) ≤ x1.length + x2.length + x3.length) {K4 : (List Int) → (List Int)}
  (b9 : ∀ {a1 : List Int} {a6 : PV} (a8 : (tSl tI).R a1 a6) (c3 : (a1.length : Int) ≤ x1.length + x2.length + x3.length + x4.length), K4 a1 = res → PX Tryz.prog 4 S (QR Tryz.prog [(10, none)] (RF70 res)) [(1, a6)] ⟨0, []⟩) :
  ∀ {m : Nat} {a1 : List Int} {a0 : Int} {a6 : PV} (a8 : (tSl tI).R a1 a6) (b7 : m = Int.toNat ((x4.length : Int) - a0)) (b1 : 0 ≤ a0) (a4 : (a1.length : Int) ≤ (x1.length + x2.length + x3.length : Int) + a0) (a3 : a0 ≤ (x4.length : Int)), kh x0 x4 K4 m a1 a0 = res → RC Tryz.prog (.loop cd7) S (QR Tryz.prog [(10, none)] (RF70 res)) [(13, vi a0), (5, .fp v0), (4, v4), (1, a6)] ⟨0, []⟩ := by
 have hb' := hb
 try simp only [qa, qaD] at hb'
 intro m
 induction m with
 | zero =>
  intro a1 a0 a6 a8 b7 b1 a4 a3 hres
  rw [kh] at hres
  refine cj (ap (sR (mV rfl (mV rfl (af (cq rfl (ci r4 Tryz.underlying29 _)) (bN cn rfl rfl (nS ?_)))))))
  refine cd rfl ?_ ?_ <;> intro c <;> try simp only [qa, qaD] at c
  ·omega
  refine dl (eh (de ?_))
  exact wP (b9 a8 (by first | omega | ((try dsimp only); (try simp only [List.length_append, List.length_cons, List.length_nil]); omega) | simp) hres) rfl
 | succ m ih =>
  intro a1 a0 a6 a8 b7 b1 a4 a3 hres
  rw [kh] at hres
  refine cj (ap (sR (mV rfl (mV rfl (af (cq rfl (ci r4 Tryz.underlying29 _)) (bN cn rfl rfl (nS ?_)))))))
  refine cd rfl ?_ ?_ <;> intro c <;> try simp only [qa, qaD] at c
  rotate_left
  ·omega
  refine az (au (ap (bf (aw (mV rfl (lD r0 rfl rfl rfl (mV rfl (mV rfl ?_))))))))
  refine af (bn rfl rfl (slI r4 (by omega) (by omega))) (lR rfl rfl rfl ?_)
  obtain ⟨b6, b2, hres⟩ := bp hres
  have b0 := ce2 (x1 := (ix x4 a0)) r0 (by first | assumption | omega | (rw [cv (by omega) (by omega)]; omega))
  rw [b2] at b0
  refine cL b0 rfl rfl (ak (TR.clo ab.t r0) (ak rfl bd)) ?_
  obtain ⟨c2, a2, hres⟩ := bp hres
  obtain ⟨c1, b5, a9⟩ := ap4 (x1 := b6) a8 (by first | assumption | omega | (rw [cv (by omega) (by omega)]; omega))
  rw [a2] at a9
  have b8 := sq a2 (by omega)
  refine cL b5 rfl rfl (ak (TR.clo (tSl tI) a8) (ak rfl bd)) (mV rfl (br (cy (au (aw (mV rfl (bN dp rfl rfl (mV rfl ?_))))))))
  refine br (cx ?_)
  have hbd := dc r4
  have hinc : wr (a0 + 1) = a0 + 1 := cv (by omega) (by omega)
  erw [hinc]
  exact wC (ih  a9 (by omega) (by omega) (by first | omega | ((try dsimp only); (try simp only [List.length_append, List.length_cons, List.length_nil]); omega) | simp) (by first | omega | ((try dsimp only); (try simp only [List.length_append, List.length_cons, List.length_nil]); omega) | simp) hres) rfl

theorem ay9 {x0 : ab} {x1 : List Int} {x2 : List aa} {x3 x4 : List Int} {v0 v1 v2 v3 v4 : PV} (r0 : ab.t.R x0 v0) (r1 : (tSl tI).R x1 v1) (r2 : (tSl aa.t).R x2 v2) (r3 : (tSl tI).R x3 v3) (r4 : (tSl tI).R x4 v4) (hs : x0.Headers.length ≤ 1000) (hb : x1.length + x2.length + x3.length + x4.length ≤ 2000000) : ∃ r, FnR Tryz.prog 70 [v0, v1, v2, v3, v4] r ∧ (tSl tI).R (lv x0 x1 x2 x3 x4) r := by
 refine fnT (R := RF70) ct8 rfl fun res hres => ?_
 unfold lv at hres
 refine sR (af (dn rfl (TR.cnt ab.t r0)) (af (v := nilS) (ax rfl) (nS (ap (sR (mI rfl (nS (bf ?_))))))))
 refine wC (vv r0 r2 hs hb ?_  r1 rfl (by omega) (by first | omega | ((try dsimp only); (try simp only [List.length_append, List.length_cons, List.length_nil]); omega) | simp) (by first | omega | ((try dsimp only); (try simp only [List.length_append, List.length_cons, List.length_nil]); omega) | simp) hres) rfl
 ·intro b1 b0 a3 a0 hres
  refine em (au (ap (sR (mI rfl (nS (bf ?_))))))
  refine wC (wo r0 r3 hs hb a0 ?_  a3 rfl (by omega) (by first | omega | ((try dsimp only); (try simp only [List.length_append, List.length_cons, List.length_nil]); omega) | simp) (by first | omega | ((try dsimp only); (try simp only [List.length_append, List.length_cons, List.length_nil]); omega) | simp) hres) rfl
  ·intro a7 a8 a4 a2 hres
   refine em (au (ap (sR (mI rfl (nS (bf ?_))))))
   refine wC (wv r0 r4 hs hb a0 a2 ?_  a4 rfl (by omega) (by first | omega | ((try dsimp only); (try simp only [List.length_append, List.length_cons, List.length_nil]); omega) | simp) (by first | omega | ((try dsimp only); (try simp only [List.length_append, List.length_cons, List.length_nil]); omega) | simp) hres) rfl
   ·intro a6 a9 a1 a5 hres
    refine em (au (sR (mV rfl (mV rfl (nS ?_)))))
    exact rR hres rfl (TR.clo (tSl tI) a1) a1

def RF175 (res : Bool) (r : PV) : Prop := r = vb res
theorem ba6 {x0 : UInt8} : FnR Tryz.prog 175 [vu8 x0] (vb (na x0)) := by
 refine fnS (R := RF175) cl7 (fun _ h => h) rfl fun res hres => ?_
 unfold na at hres
 refine sR (mB rfl (nR (mV rfl (af (cb (a := vu8 x0) (b := vu8 (97 : UInt8)) rfl rfl ah0) (mV rfl ?_)))))
 refine ca 3 (d := 8) (v := vb ((decide ((97 : UInt8) ≤ x0)) && (decide (x0 ≤ (122 : UInt8))))) ?_ ?_
 ·intro S Q r
  cases a5 : (decide ((97 : UInt8) ≤ x0))
  ·exact gN 2 rfl rfl rfl rfl rfl rfl
  ·intro k
   have a2 := a5
   try simp only [qa, qaD] at a2
   refine ah rfl rfl (ax rfl) (ah rfl rfl (cb (a := vu8 x0) (b := vu8 (122 : UInt8)) rfl rfl ai9) ?_)
   exact gK rfl rfl rfl rfl rfl k
 refine mV rfl ?_
 refine ca 7 (d := 16) (v := vb (((decide ((97 : UInt8) ≤ x0)) && (decide (x0 ≤ (122 : UInt8)))) || ((decide ((65 : UInt8) ≤ x0)) && (decide (x0 ≤ (90 : UInt8)))))) ?_ ?_
 ·intro S Q r
  cases a4 : ((decide ((97 : UInt8) ≤ x0)) && (decide (x0 ≤ (122 : UInt8))))
  ·intro k
   have a1 := a4
   try simp only [qa, qaD] at a1
   refine ah rfl rfl (ax rfl) (ah rfl rfl (cb (a := vu8 x0) (b := vu8 (65 : UInt8)) rfl rfl ah0) (ah rfl rfl (ax rfl) ?_))
   refine ca 3 (d := 15) (v := vb ((decide ((65 : UInt8) ≤ x0)) && (decide (x0 ≤ (90 : UInt8))))) ?_ ?_
   ·intro S Q r
    cases a3 : (decide ((65 : UInt8) ≤ x0))
    ·intro k
     refine ij rfl rfl (ij rfl rfl (ah (v := vb false) rfl rfl (nr rfl rfl rfl rfl) ?_))
     exact wD k rfl
    ·intro k
     have a0 := a3
     try simp only [qa, qaD] at a0
     refine ah rfl rfl (ax rfl) (ah rfl rfl (cb (a := vu8 x0) (b := vu8 (90 : UInt8)) rfl rfl ai9) (ah (v := vb (decide (x0 ≤ (90 : UInt8)))) rfl rfl (nr rfl rfl rfl rfl) ?_))
     exact wD k rfl
   exact gK rfl rfl rfl rfl rfl k
  ·exact gN 6 rfl rfl rfl rfl rfl rfl
 refine mV rfl (nS ?_)
 exact rR hres rfl rfl rfl

def RF176 (res : Bool) (r : PV) : Prop := r = vb res
theorem cd6 {x0 : UInt8} : FnR Tryz.prog 176 [vu8 x0] (vb (ot x0)) := by
 refine fnS (R := RF176) ck6 (fun _ h => h) rfl fun res hres => ?_
 unfold ot at hres
 refine sR (mB rfl (nR (mV rfl (af (cb (a := vu8 x0) (b := vu8 (48 : UInt8)) rfl rfl ah0) (mV rfl ?_)))))
 refine ca 3 (d := 8) (v := vb ((decide ((48 : UInt8) ≤ x0)) && (decide (x0 ≤ (57 : UInt8))))) ?_ ?_
 ·intro S Q r
  cases a1 : (decide ((48 : UInt8) ≤ x0))
  ·exact gN 2 rfl rfl rfl rfl rfl rfl
  ·intro k
   have a0 := a1
   try simp only [qa, qaD] at a0
   refine ah rfl rfl (ax rfl) (ah rfl rfl (cb (a := vu8 x0) (b := vu8 (57 : UInt8)) rfl rfl ai9) ?_)
   exact gK rfl rfl rfl rfl rfl k
 refine mV rfl (nS ?_)
 exact rR hres rfl rfl rfl

def RF105 (res : Bool) (r : PV) : Prop := r = vb res
theorem sa {S : List Fr} {res : Bool} {x0 : List UInt8} (a7 : (((decide (x0 = ([] : List UInt8))) || (decide (16 < (x0.length : Int)))) || (!(na (ix x0 0)))) = false) {K0 : Unit → Bool}
  (b3 : K0 () = res → PX Tryz.prog 0 S (QR Tryz.prog [(2, none)] (RF105 res)) [] ⟨0, []⟩) :
  ∀ {m : Nat} {a0 : Int} (b2 : m = Int.toNat ((x0.length : Int) - a0)) (a6 : 0 ≤ a0), io x0 K0 m a0 = res → RC Tryz.prog (.loop bn9) S (QR Tryz.prog [(2, none)] (RF105 res)) [(3, vi a0), (0, vs x0)] ⟨0, []⟩ := by
 have a4 := a7
 try simp only [qa, qaD] at a4
 intro m
 induction m with
 | zero =>
  intro a0 b2 a6 hres
  rw [io] at hres
  refine cj (ap (sR (mV rfl (mV rfl (af (cq rfl (od Tryz.underlying9)) (bN cn rfl rfl (nS ?_)))))))
  refine cd rfl ?_ ?_ <;> intro c <;> try simp only [qa, qaD] at c
  ·omega
  refine dl (eh (de ?_))
  exact wP (b3  hres) rfl
 | succ m ih =>
  intro a0 b2 a6 hres
  rw [io] at hres
  refine cj (ap (sR (mV rfl (mV rfl (af (cq rfl (od Tryz.underlying9)) (bN cn rfl rfl (nS ?_)))))))
  refine cd rfl ?_ ?_ <;> intro c <;> try simp only [qa, qaD] at c
  rotate_left
  ·omega
  refine az (au (ap (bf (sR (mV rfl (mV rfl (af (qb rfl rfl (tc Tryz.underlying9 (by first | omega | (have hp := List.length_pos_iff.2 (And.left (by assumption : ¬x0 = [] ∧ _)); omega)) (by first | omega | (have hp := List.length_pos_iff.2 (And.left (by assumption : ¬x0 = [] ∧ _)); omega)))) ?_)))))))
  obtain ⟨a1, a5, hres⟩ := bp hres
  have b0 := ba6 (x0 := (ix x0 a0))  
  rw [a5] at b0
  refine cL b0 rfl rfl (ak rfl bd) (af (kp rfl) (mV rfl ?_))
  refine ca 6 (d := 34) (v := vb ((!a1) && (!(ot (ix x0 a0))))) ?_ ?_
  ·intro S Q r
   cases a9 : (!a1)
   ·exact gN 5 rfl rfl rfl rfl rfl rfl
   ·intro k
    have a2 := a9
    try simp only [qa, qaD] at a2
    refine ah rfl rfl (ax rfl) (ah rfl rfl (ax rfl) (ah rfl rfl (qb rfl rfl (tc Tryz.underlying9 (by first | omega | (have hp := List.length_pos_iff.2 (And.left (by assumption : ¬x0 = [] ∧ _)); omega)) (by first | omega | (have hp := List.length_pos_iff.2 (And.left (by assumption : ¬x0 = [] ∧ _)); omega)))) ?_))
    have b1 := cd6 (x0 := (ix x0 a0))  
    refine mn rfl rfl (rp rfl rfl (ak rfl bd) b1) (ah rfl rfl (kp rfl) ?_)
    exact gK rfl rfl rfl rfl rfl k
  refine mV rfl ?_
  refine ca 5 (d := 40) (v := vb (((!a1) && (!(ot (ix x0 a0)))) && (!decide ((ix x0 a0) = (95 : UInt8))))) ?_ ?_
  ·intro S Q r
   cases a8 : ((!a1) && (!(ot (ix x0 a0))))
   ·exact gN 4 rfl rfl rfl rfl rfl rfl
   ·intro k
    have a3 := a8
    try simp only [qa, qaD] at a3
    refine ah rfl rfl (ax rfl) (ah rfl rfl (ax rfl) (ah rfl rfl (qb rfl rfl (tc Tryz.underlying9 (by first | omega | (have hp := List.length_pos_iff.2 (And.left (by assumption : ¬x0 = [] ∧ _)); omega)) (by first | omega | (have hp := List.length_pos_iff.2 (And.left (by assumption : ¬x0 = [] ∧ _)); omega)))) (ah rfl rfl (cb (a := vu8 (ix x0 a0)) (b := vu8 (95 : UInt8)) rfl rfl dn6) ?_)))
    exact gK rfl rfl rfl rfl rfl k
  refine nS ?_
  refine bz hres rfl ?_ ?_ <;> clear hres <;> intro c hres <;> try simp only [qa, qaD] at c
  ·refine sR (mB rfl (nS ?_))
   exact rR hres rfl rfl rfl
  ·refine az (cy (au (aw (mV rfl (bN dp rfl rfl (mV rfl (br (cx ?_))))))))
   have hinc : wr (a0 + 1) = a0 + 1 := cv (by omega) (by omega)
   erw [hinc]
   exact wC (ih   (by omega) (by omega) hres) rfl

theorem bd7 {x0 : List UInt8} : FnR Tryz.prog 105 [vs x0] (vb (ir x0)) := by
 refine fnS (R := RF105) co4 (fun _ h => h) rfl fun res hres => ?_
 unfold ir at hres
 refine sR (mB rfl (nS (ap (sR (mV rfl (af (cb (a := vs x0) (b := vs ([] : List UInt8)) rfl rfl am5) (mV rfl ?_)))))))
 refine ca 4 (d := 10) (v := vb ((decide (x0 = ([] : List UInt8))) || (decide (16 < (x0.length : Int))))) ?_ ?_
 ·intro S Q r
  cases a5 : (decide (x0 = ([] : List UInt8)))
  ·intro k
   have a1 := a5
   try simp only [qa, qaD] at a1
   refine ah rfl rfl (ax rfl) (ah rfl rfl (cq rfl (od Tryz.underlying9)) (ah rfl rfl (cb rfl rfl iu) ?_))
   exact gK rfl rfl rfl rfl rfl k
  ·exact gN 3 rfl rfl rfl rfl rfl rfl
 refine mV rfl ?_
 refine ca 5 (d := 16) (v := vb (((decide (x0 = ([] : List UInt8))) || (decide (16 < (x0.length : Int)))) || (!(na (ix x0 0))))) ?_ ?_
 ·intro S Q r
  cases a4 : ((decide (x0 = ([] : List UInt8))) || (decide (16 < (x0.length : Int))))
  ·intro k
   have a2 := a4
   try simp only [qa, qaD] at a2
   refine ah rfl rfl (ax rfl) (ah rfl rfl (qb rfl rfl (tc (i := 0) Tryz.underlying9 (by first | omega | (have hp := List.length_pos_iff.2 (And.left (by assumption : ¬x0 = [] ∧ _)); omega)) (by first | omega | (have hp := List.length_pos_iff.2 (And.left (by assumption : ¬x0 = [] ∧ _)); omega)))) ?_)
   have a6 := ba6 (x0 := (ix x0 0))  
   refine mn rfl rfl (rp rfl rfl (ak rfl bd) a6) (ah rfl rfl (kp rfl) ?_)
   exact gK rfl rfl rfl rfl rfl k
  ·exact gN 4 rfl rfl rfl rfl rfl rfl
 refine nS ?_
 refine bz hres rfl ?_ ?_ <;> clear hres <;> intro a0 hres <;> have a3 := a0 <;> try simp only [qa, qaD] at a3
 ·refine sR (mB rfl (nS ?_))
  exact rR hres rfl rfl rfl
 ·refine az (au (ap (sR (mI rfl (nS (bf ?_))))))
  refine wC (sa a0 ?_  rfl (by omega) hres) rfl
  ·intro  hres
   refine em (au (sR (mB rfl (nS ?_))))
   exact rR hres rfl rfl rfl

def RF106 (res : Int) (r : PV) : Prop := r = vi res
theorem vp {S : List Fr} {res : Int} {x0 : List ay} {a0 : Int} {a6 : Bool} {v0 : PV} (r0 : (tSl ay.t).R x0 v0) (b7 : 0 ≤ a0) (a7 : (decide (a0 < (x0.length : Int))) = true) (b5 : ir ((ix x0 a0).Name) = a6) (a9 : (!a6) = false) (a5 : ((decide (((ix x0 a0).Width) < 1)) || (decide (32 < ((ix x0 a0).Width)))) = false) {K3 : Unit → Int}
  (b6 : K3 () = res → PX Tryz.prog 3 S (QR Tryz.prog [(2, none)] (RF106 res)) [(0, v0), (3, vi a0)] ⟨0, []⟩) :
  ∀ {m : Nat} {a1 : Int} (b4 : m = Int.toNat (a0 - a1)) (a8 : 0 ≤ a1), kg x0 a0 K3 m a1 = res → RC Tryz.prog (.loop bt2) S (QR Tryz.prog [(2, none)] (RF106 res)) [(4, vi a1), (3, vi a0), (0, v0)] ⟨0, []⟩ := by
 have a3 := a7
 try simp only [qa, qaD] at a3
 have a2 := a9
 try simp only [qa, qaD] at a2
 have a4 := a5
 try simp only [qa, qaD] at a4
 intro m
 induction m with
 | zero =>
  intro a1 b4 a8 hres
  rw [kg] at hres
  refine cj (ap (sR (mV rfl (mV rfl (bN cn rfl rfl (nS ?_))))))
  refine cd rfl ?_ ?_ <;> intro c <;> try simp only [qa, qaD] at c
  ·omega
  refine dl (eh (de ?_))
  exact wP (b6  hres) rfl
 | succ m ih =>
  intro a1 b4 a8 hres
  rw [kg] at hres
  refine cj (ap (sR (mV rfl (mV rfl (bN cn rfl rfl (nS ?_))))))
  refine cd rfl ?_ ?_ <;> intro c <;> try simp only [qa, qaD] at c
  rotate_left
  ·omega
  refine az (au (ap (bf (sR (mV rfl (mV rfl ?_))))))
  obtain ⟨b9, b0, b1⟩ := dh (i := a1) r0 (by omega) (by omega)
  refine af (bn rfl rfl b0) (fL rfl (ay.g_Name b1) rfl rfl (mV rfl (mV rfl ?_)))
  obtain ⟨b8, b2, b3⟩ := dh (i := a0) r0 (by omega) (by omega)
  refine af (bn rfl rfl b2) (fL rfl (ay.g_Name b3) rfl rfl (af (cb (a := vs ((ix x0 a1).Name)) (b := vs ((ix x0 a0).Name)) rfl rfl am5) (nS ?_)))
  refine bz hres rfl ?_ ?_ <;> clear hres <;> intro c hres <;> try simp only [qa, qaD] at c
  ·refine sR (mI rfl (nS ?_))
   exact rR hres rfl rfl rfl
  ·refine az (cy (au (aw (mV rfl (bN dp rfl rfl (mV rfl (br (cx ?_))))))))
   have hinc : wr (a1 + 1) = a1 + 1 := cv (by omega) (by first | omega | (have hbd := dc r0; omega))
   erw [hinc]
   exact wC (ih   (by omega) (by omega) hres) rfl

theorem wy {S : List Fr} {res : Int} {x0 : List ay} {v0 : PV} (r0 : (tSl ay.t).R x0 v0) {K0 : Unit → Int}
  (c1 : K0 () = res → PX Tryz.prog 0 S (QR Tryz.prog [(2, none)] (RF106 res)) [] ⟨0, []⟩) :
  ∀ {m : Nat} {a0 : Int} (b8 : m = Int.toNat ((x0.length : Int) - a0)) (a7 : 0 ≤ a0), ki x0 K0 m a0 = res → RC Tryz.prog (.loop bm1) S (QR Tryz.prog [(2, none)] (RF106 res)) [(3, vi a0), (0, v0)] ⟨0, []⟩ := by
 intro m
 induction m with
 | zero =>
  intro a0 b8 a7 hres
  rw [ki] at hres
  refine cj (ap (sR (mV rfl (mV rfl (af (cq rfl (ci r0 Tryz.underlying23 _)) (bN cn rfl rfl (nS ?_)))))))
  refine cd rfl ?_ ?_ <;> intro c <;> try simp only [qa, qaD] at c
  ·omega
  refine dl (eh (de ?_))
  exact wP (c1  hres) rfl
 | succ m ih =>
  intro a0 b8 a7 hres
  rw [ki] at hres
  refine cj (ap (sR (mV rfl (mV rfl (af (cq rfl (ci r0 Tryz.underlying23 _)) (bN cn rfl rfl (nS ?_)))))))
  refine cd rfl (fun a1 => ?_) (fun a1 => ?_)
  ·have hgo := hres
   have a6 := a1
   try simp only [qa, qaD] at a6
   refine az (au (ap (bf (ap (bf (sR (mV rfl (mV rfl ?_))))))))
   obtain ⟨c2, b2, b6⟩ := dh (i := a0) r0 (by omega) (by omega)
   refine af (bn rfl rfl b2) (fL rfl (ay.g_Name b6) rfl rfl ?_)
   obtain ⟨b9, a3, hres⟩ := bp hres
   have b0 := bd7 (x0 := (ix x0 a0).Name)  
   rw [a3] at b0
   refine cL b0 rfl rfl (ak rfl bd) (af (kp rfl) (mV rfl (nS ?_)))
   refine bz hres rfl ?_ ?_ <;> clear hres <;> intro a4 hres <;> have a5 := a4 <;> try simp only [qa, qaD] at a5
   ·refine sR (mI rfl (nS ?_))
    exact rR hres rfl rfl rfl
   ·refine sR (mV rfl (mV rfl ?_))
    obtain ⟨c3, b7, b3⟩ := dh (i := a0) r0 (by omega) (by omega)
    refine af (bn rfl rfl b7) (fL rfl (ay.g_Width b3) rfl rfl (bN cn rfl rfl (mV rfl ?_)))
    refine ca 7 (d := 33) (v := vb ((decide (((ix x0 a0).Width) < 1)) || (decide (32 < ((ix x0 a0).Width))))) ?_ ?_
    ·intro S Q r
     cases b1 : (decide (((ix x0 a0).Width) < 1))
     ·intro k
      have a8 := b1
      try simp only [qa, qaD] at a8
      refine ah rfl rfl (ax rfl) (ah rfl rfl (ax rfl) ?_)
      obtain ⟨c4, b5, b4⟩ := dh (i := a0) r0 (by omega) (by omega)
      refine ah rfl rfl (bn rfl rfl b5) (ah rfl rfl (bw rfl (ay.g_Width b4)) (ah rfl rfl (bv rfl rfl rfl) (ah rfl rfl (cb rfl rfl iu) ?_)))
      exact gK rfl rfl rfl rfl rfl k
     ·exact gN 6 rfl rfl rfl rfl rfl rfl
    refine mV rfl (nS ?_)
    refine bz hres rfl ?_ ?_ <;> clear hres <;> intro a2 hres <;> have a9 := a2 <;> try simp only [qa, qaD] at a9
    ·refine sR (mI rfl (nS ?_))
     exact rR hres rfl rfl rfl
    ·refine az (cy (au (sR (mI rfl (nS (bf ?_))))))
     refine wC (vp r0 a7 a1 a3 a4 a2 ?_  rfl (by omega) hres) rfl
     ·intro  hres
      refine em (cy (au (aw (mV rfl (bN dp rfl rfl (mV rfl (br (cx ?_))))))))
      have hbd := dc r0
      have hinc : wr (a0 + 1) = a0 + 1 := cv (by omega) (by first | omega | (have hbd := dc r0; omega))
      erw [hinc]
      exact wC (ih   (by omega) (by omega) hres) rfl
  ·exfalso
   try simp only [qa, qaD] at a1
   omega

theorem bb6 {x0 : List ay} {v0 : PV} (r0 : (tSl ay.t).R x0 v0) : FnR Tryz.prog 106 [v0] (vi (pb x0)) := by
 refine fnS (R := RF106) ce9 (fun _ h => h) rfl fun res hres => ?_
 unfold pb at hres
 refine sR (mI rfl (nS (ap (sR (mI rfl (nS (bf ?_)))))))
 refine wC (wy r0 ?_  rfl (by omega) hres) rfl
 ·intro  hres
  refine em (au (sR (mI rfl (nS ?_))))
  exact rR hres rfl rfl rfl

end Go.Proofs.YtmonnlkagniolaaGreat
