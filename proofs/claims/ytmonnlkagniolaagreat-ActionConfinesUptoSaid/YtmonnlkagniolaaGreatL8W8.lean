/-
 The code of each function does what its plain program says.
-/
import Derived.Test.YtmonnlkagniolaaGreatL8W7
set_option linter.unusedVariables false
set_option linter.unusedSimpArgs false
set_option maxRecDepth 100000
namespace Go.Proofs.YtmonnlkagniolaaGreat
open Go Go.Pb Go.RowKit
def RF51 (res : Bool) (r : PV) : Prop := r = vb res
theorem td {S : List Fr} {res : Bool} {x0 : List (BitVec 32)} {x1 : List (BitVec 32)} {v0 v1 : PV} (r0 : (tSl dn).R x0 v0) (r1 : (tSl dn).R x1 v1) (a2 : (!decide ((x0.length : Int) = (x1.length : Int))) = false) {K0 : Unit → Bool}
  (a5 : K0 () = res → PX Tryz.prog 0 S (QR Tryz.prog [(4, none)] (RF51 res)) [] ⟨0, []⟩) :
  ∀ {m : Nat} {a0 : Int} (a4 : m = Int.toNat ((x0.length : Int) - a0)) (a3 : 0 ≤ a0), jg x0 x1 K0 m a0 = res → RC Tryz.prog (.loop cg0) S (QR Tryz.prog [(4, none)] (RF51 res)) [(5, vi a0), (1, v1), (0, v0)] ⟨0, []⟩ := by
 have a1 := a2
 try simp only [qa] at a1
 intro m
 induction m with
 | zero =>
  intro a0 a4 a3 s
  rw [jg] at s
  refine co (am (sR (mV rfl (mV rfl (ae (cv rfl (ci r0 Tryz.underlying43 _)) (bN cw rfl rfl (nS ?_)))))))
  refine cd rfl ?_ ?_ <;> intro c <;> try simp only [qa] at c
  ·omega
  refine fj (gg (dw ?_))
  exact wP (a5  s) rfl
 | succ m ih =>
  intro a0 a4 a3 s
  rw [jg] at s
  refine co (am (sR (mV rfl (mV rfl (ae (cv rfl (ci r0 Tryz.underlying43 _)) (bN cw rfl rfl (nS ?_)))))))
  refine cd rfl ?_ ?_ <;> intro c <;> try simp only [qa] at c
  rotate_left
  ·omega
  refine az (aq (am (bm (sR (mV rfl (mV rfl (ae (bg rfl rfl (uj r0 (by omega) (by omega))) (lR rfl rfl rfl ?_))))))))
  refine mV rfl (mV rfl (ae (bg rfl rfl (uj r1 (by omega) (by omega))) (lR rfl rfl rfl (ae (bq (a := bh (ix x0 a0)) (b := bh (ix x1 a0)) rfl rfl bf9) (nS ?_)))))
  refine cg s rfl ?_ ?_ <;> clear s <;> intro c s <;> try simp only [qa] at c
  ·refine sR (mB rfl (nS ?_))
   exact rR s rfl rfl rfl
  ·refine az (de (aq (ay (mV rfl (bN gv rfl rfl (mV rfl (br (di ?_))))))))
   have hbd := en r0
   have hinc : wr (a0 + 1) = a0 + 1 := ee (by omega) (by omega)
   erw [hinc]
   exact wC (ih   (by omega) (by omega) s) rfl

theorem cz0 {x0 : List (BitVec 32)} {x1 : List (BitVec 32)} {v0 v1 : PV} (r0 : (tSl dn).R x0 v0) (r1 : (tSl dn).R x1 v1) : FnR Tryz.prog 51 [v0, v1] (vb (jk x0 x1)) := by
 refine fnS (R := RF51) bt6 (fun _ h => h) rfl fun res s => ?_
 unfold jk at s
 refine sR (mB rfl (nS (am (sR (mV rfl (ae (cv rfl (ci r0 Tryz.underlying43 _)) (mV rfl (ae (cv rfl (ci r1 Tryz.underlying43 _)) ?_))))))))
 refine bN mi rfl rfl (nS ?_)
 refine cg s rfl ?_ ?_ <;> clear s <;> intro a0 s <;> have a1 := a0 <;> try simp only [qa] at a1
 ·refine sR (mB rfl (nS ?_))
  exact rR s rfl rfl rfl
 ·refine az (aq (am (sR (mI rfl (nS (bm ?_))))))
  refine wC (td r0 r1 a0 ?_  rfl (by omega) s) rfl
  ·intro  s
   refine gm (aq (sR (mB rfl (nS ?_))))
   exact rR s rfl rfl rfl

def RF8 (res : Bool) (r : PV) : Prop := r = vb res
theorem rq {S : List Fr} {res : Bool} {x0 : bd} {c1 : Bool} {a1 : au × (List (List (BitVec 32)))} {b2 : (List aa) × (List Int) × (List Int)} {v0 a6 b3 a8 b8 b5 : PV} {a3 a4 : Nat} (r0 : bd.t.R x0 v0) (hE : EB x0.E) (hR : RB x0.Regs) (d8 : kg x0.P = c1) (b4 : (((!c1) || (decide (40 < (x0.Call.Args.length : Int)))) || (!(fc x0))) = false) (e2 : dt x0.P x0.Call x0.E x0.Regs = a1) (a7 : au.t.R a1.1 a6) (e1 : fb x0.P x0.Call.Action = b2) (c2 : (tSl aa.t).R b2.1 a8) (b9 : (((!decide ((a1.1.Valid.length : Int) = (x0.E.Valid.length : Int))) || (!decide ((a1.2.length : Int) = (x0.Regs.length : Int)))) || (!decide (a1.1.Payload = x0.E.Payload))) = false) {K0 : Unit → Bool}
  (e8 : ∀ {h : Heap} (M0 : Mem h [⟨.op a3 a4 0, 46, 4, [a6]⟩]), K0 () = res → PX Tryz.prog 0 S (QR Tryz.prog [(2, none)] (RF8 res)) [(1, .fp v0), (3, .op a3 a4 0), (4, b3), (5, a8), (6, b8), (7, b5)] h) :
  ∀ {m : Nat} {a0 : Int} (d9 : m = Int.toNat ((x0.P.Metadata.length : Int) - a0)) (b7 : 0 ≤ a0) {h : Heap} (M0 : Mem h [⟨.op a3 a4 0, 46, 4, [a6]⟩]), ia x0 a1 b2 K0 m a0 = res → RC Tryz.prog (.loop dh8) S (QR Tryz.prog [(2, none)] (RF8 res)) [(8, vi a0), (7, b5), (6, b8), (5, a8), (4, b3), (3, .op a3 a4 0), (1, .fp v0)] h := by
 have b0 := b4
 try simp only [qa] at b0
 have b1 := b9
 try simp only [qa] at b1
 intro m
 induction m with
 | zero =>
  intro a0 d9 b7 h M0 s
  rw [ia] at s
  refine co (am (sR (mV rfl ?_)))
  obtain ⟨e7, d0, c7⟩ := bd.g_P r0
  refine fA rfl d0 (gL (ab.g_Metadata c7) rfl rfl rfl fun e4 d4 => (ae (cv rfl (ci d4 Tryz.underlying23 _)) (bN cw rfl rfl (nS ?_))))
  refine cd rfl ?_ ?_ <;> intro c <;> try simp only [qa] at c
  ·omega
  refine fj (gg (dw ?_))
  exact wP (e8 (Mem.sub M0 (.cons_cons _ .slnil)) s) rfl
 | succ m ih =>
  intro a0 d9 b7 h M0 s
  rw [ia] at s
  refine co (am (sR (mV rfl ?_)))
  obtain ⟨e9, d7, d5⟩ := bd.g_P r0
  refine fA rfl d7 (gL (ab.g_Metadata d5) rfl rfl rfl fun e6 c5 => (ae (cv rfl (ci c5 Tryz.underlying23 _)) (bN cw rfl rfl (nS ?_))))
  refine cd rfl ?_ ?_ <;> intro c <;> try simp only [qa] at c
  rotate_left
  ·omega
  refine az (aq (am (bm (sR (mV rfl (ae (v := .agg [vi (-1), vi a0]) (fk (cs := [vi (-1), vi a0]) rfl rfl) ?_))))))
  refine ej (x := .agg [vi 0, vi 0]) M0 rfl rfl (fun d2 c8 e3 c9 => ?_)
  refine ct (k := 0) (v := .agg [vi (-1), vi a0]) c9 rfl rfl rfl rfl (fun d6 a2 => ?_)
  replace a2 : Mem d6 [⟨.op d2 c8 0, 87, 2, [.agg [vi (-1), vi a0]]⟩, ⟨.op a3 a4 0, 46, 4, [a6]⟩] := a2
  refine nR (mV rfl (ae (ir (k := 0) a2 rfl rfl rfl) ?_))
  obtain ⟨c3, c0, s⟩ := bt s
  have b6 := bw7  c2 (show aa.t.R ({ Header := (-1), Field := a0 } : aa) (.agg [vi (-1), vi a0]) from rfl) 
  rw [c0] at b6
  refine cL b6 rfl rfl (ai (TR.clo (tSl aa.t) c2) (ai (TR.clo aa.t (show aa.t.R ({ Header := (-1), Field := a0 } : aa) (.agg [vi (-1), vi a0]) from rfl)) bf)) (ae (ju rfl) (mV rfl ?_))
  refine cq 9 (d := 102) (v := vb ((!c3) && (!decide ((fm a1.1 ({ Header := (-1), Field := a0 } : aa)) = (fm x0.E ({ Header := (-1), Field := a0 } : aa)))))) ?_ ?_
  ·intro S Q r
   cases c4 : (!c3)
   ·exact gN 8 rfl rfl rfl rfl rfl rfl
   ·intro k
    have a9 := c4
    try simp only [qa] at a9
    refine ah rfl rfl (ir (k := 1) a2 rfl rfl (TR.agg au.t a7)) (ah rfl rfl (ir (k := 0) a2 rfl rfl rfl) ?_)
    have c6 := ao3  a7 (show aa.t.R ({ Header := (-1), Field := a0 } : aa) (.agg [vi (-1), vi a0]) from rfl) 
    refine ld rfl rfl (ru rfl rfl (ai (TR.clo au.t a7) (ai (TR.clo aa.t (show aa.t.R ({ Header := (-1), Field := a0 } : aa) (.agg [vi (-1), vi a0]) from rfl)) bf)) c6) ?_
    obtain ⟨e5, d1, a5⟩ := bd.g_E r0
    refine ah rfl rfl (bw rfl d1) (ah rfl rfl (bv rfl (TR.cnt au.t a5) (TR.agg au.t a5)) (ah rfl rfl (ir (k := 0) a2 rfl rfl rfl) ?_))
    have d3 := ao3  a5 (show aa.t.R ({ Header := (-1), Field := a0 } : aa) (.agg [vi (-1), vi a0]) from rfl) 
    refine ld rfl rfl (ru rfl rfl (ai (TR.clo au.t a5) (ai (TR.clo aa.t (show aa.t.R ({ Header := (-1), Field := a0 } : aa) (.agg [vi (-1), vi a0]) from rfl)) bf)) d3) (ah rfl rfl (bq (a := bh (fm a1.1 ({ Header := (-1), Field := a0 } : aa))) (b := bh (fm x0.E ({ Header := (-1), Field := a0 } : aa))) rfl rfl bf9) ?_)
    exact gK rfl rfl rfl rfl rfl k
  refine nS ?_
  refine cg s rfl ?_ ?_ <;> clear s <;> intro c s <;> try simp only [qa] at c
  ·refine sR (mB rfl (nS ?_))
   exact rR s rfl rfl rfl
  ·refine az (de (aq (ay (mV rfl (bN gv rfl rfl (mV rfl (br (di ?_))))))))
   have hbd := en c5
   have hinc : wr (a0 + 1) = a0 + 1 := ee (by omega) (by omega)
   erw [hinc]
   exact wC (ih   (by omega) (by omega) (Mem.sub a2 (.cons _ (.cons_cons _ .slnil))) s) rfl

theorem ry {S : List Fr} {res : Bool} {x0 : bd} {c9 : Bool} {a2 : au × (List (List (BitVec 32)))} {a8 : (List aa) × (List Int) × (List Int)} {a0 : Int} {c6 : Bool} {v0 a7 d1 b1 c7 b7 : PV} {a5 a4 : Nat} (r0 : bd.t.R x0 v0) (hE : EB x0.E) (hR : RB x0.Regs) (f3 : kg x0.P = c9) (c5 : (((!c9) || (decide (40 < (x0.Call.Args.length : Int)))) || (!(fc x0))) = false) (f5 : dt x0.P x0.Call x0.E x0.Regs = a2) (b5 : au.t.R a2.1 a7) (f1 : fb x0.P x0.Call.Action = a8) (d0 : (tSl aa.t).R a8.1 b1) (c2 : (((!decide ((a2.1.Valid.length : Int) = (x0.E.Valid.length : Int))) || (!decide ((a2.2.length : Int) = (x0.Regs.length : Int)))) || (!decide (a2.1.Payload = x0.E.Payload))) = false) (g7 : 0 ≤ a0) (c4 : (decide (a0 < (x0.P.Headers.length : Int))) = true) (f4 : kv a8.2.1 a0 = c6) (c8 : ((!c6) && (!decide ((ix a2.1.Valid a0) = (ix x0.E.Valid a0)))) = false) {K4 : Unit → Bool}
  (g6 : ∀ {h : Heap} (M0 : Mem h [⟨.op a5 a4 0, 46, 4, [a7]⟩]), K4 () = res → PX Tryz.prog 4 S (QR Tryz.prog [(2, none)] (RF8 res)) [(1, .fp v0), (3, .op a5 a4 0), (4, d1), (5, b1), (6, c7), (7, b7), (10, vi a0)] h) :
  ∀ {m : Nat} {a1 : Int} (f2 : m = Int.toNat ((((ix x0.P.Headers a0).Fields).length : Int) - a1)) (b9 : 0 ≤ a1) {h : Heap} (M0 : Mem h [⟨.op a5 a4 0, 46, 4, [a7]⟩]), ib x0 a2 a8 a0 K4 m a1 = res → RC Tryz.prog (.loop df4) S (QR Tryz.prog [(2, none)] (RF8 res)) [(11, vi a1), (10, vi a0), (7, b7), (6, c7), (5, b1), (4, d1), (3, .op a5 a4 0), (1, .fp v0)] h := by
 have b2 := c5
 try simp only [qa] at b2
 have a9 := c2
 try simp only [qa] at a9
 have b3 := c4
 try simp only [qa] at b3
 have b4 := c8
 try simp only [qa] at b4
 intro m
 induction m with
 | zero =>
  intro a1 f2 b9 h M0 s
  rw [ib] at s
  refine co (am (sR (mV rfl ?_)))
  obtain ⟨g3, d7, e4⟩ := bd.g_P r0
  refine fA rfl d7 (gL (ab.g_Headers e4) rfl rfl rfl fun g5 d8 => (mV rfl ?_))
  obtain ⟨f9, d6, d5⟩ := dq (i := a0) d8 (by first | omega | (have hk := ui (And.right (by assumption : _ ∧ fc x0 = true)); omega)) (by first | omega | (have hk := ui (And.right (by assumption : _ ∧ fc x0 = true)); omega))
  refine ae (bg rfl rfl d6) (gL (cj.g_Fields d5) rfl rfl rfl fun f8 e5 => (ae (cv rfl (ci e5 Tryz.underlying23 _)) (bN cw rfl rfl (nS ?_))))
  refine cd rfl ?_ ?_ <;> intro c <;> try simp only [qa] at c
  ·omega
  refine fj (gg (dw ?_))
  exact wP (g6 (Mem.sub M0 (.cons_cons _ .slnil)) s) rfl
 | succ m ih =>
  intro a1 f2 b9 h M0 s
  rw [ib] at s
  refine co (am (sR (mV rfl ?_)))
  obtain ⟨g1, e9, d4⟩ := bd.g_P r0
  refine fA rfl e9 (gL (ab.g_Headers d4) rfl rfl rfl fun f7 d3 => (mV rfl ?_))
  obtain ⟨g4, e1, e3⟩ := dq (i := a0) d3 (by first | omega | (have hk := ui (And.right (by assumption : _ ∧ fc x0 = true)); omega)) (by first | omega | (have hk := ui (And.right (by assumption : _ ∧ fc x0 = true)); omega))
  refine ae (bg rfl rfl e1) (gL (cj.g_Fields e3) rfl rfl rfl fun g0 b6 => (ae (cv rfl (ci b6 Tryz.underlying23 _)) (bN cw rfl rfl (nS ?_))))
  refine cd rfl ?_ ?_ <;> intro c <;> try simp only [qa] at c
  rotate_left
  ·omega
  refine az (aq (am (bm (sR (mV rfl (mV rfl (ae (v := .agg [vi a0, vi a1]) (fk (cs := [vi a0, vi a1]) rfl rfl) ?_)))))))
  refine ej (x := .agg [vi 0, vi 0]) M0 rfl rfl (fun d9 e8 f6 d2 => ?_)
  refine ct (k := 0) (v := .agg [vi a0, vi a1]) d2 rfl rfl rfl rfl (fun e6 a3 => ?_)
  replace a3 : Mem e6 [⟨.op d9 e8 0, 87, 2, [.agg [vi a0, vi a1]]⟩, ⟨.op a5 a4 0, 46, 4, [a7]⟩] := a3
  refine nR (mV rfl (ae (ir (k := 0) a3 rfl rfl rfl) ?_))
  obtain ⟨c1, c0, s⟩ := bt s
  have b8 := bw7  d0 (show aa.t.R ({ Header := a0, Field := a1 } : aa) (.agg [vi a0, vi a1]) from rfl) 
  rw [c0] at b8
  refine cL b8 rfl rfl (ai (TR.clo (tSl aa.t) d0) (ai (TR.clo aa.t (show aa.t.R ({ Header := a0, Field := a1 } : aa) (.agg [vi a0, vi a1]) from rfl)) bf)) (ae (ju rfl) (mV rfl ?_))
  refine cq 9 (d := 157) (v := vb ((!c1) && (!decide ((fm a2.1 ({ Header := a0, Field := a1 } : aa)) = (fm x0.E ({ Header := a0, Field := a1 } : aa)))))) ?_ ?_
  ·intro S Q r
   cases c3 : (!c1)
   ·exact gN 8 rfl rfl rfl rfl rfl rfl
   ·intro k
    have b0 := c3
    try simp only [qa] at b0
    refine ah rfl rfl (ir (k := 1) a3 rfl rfl (TR.agg au.t b5)) (ah rfl rfl (ir (k := 0) a3 rfl rfl rfl) ?_)
    have f0 := ao3  b5 (show aa.t.R ({ Header := a0, Field := a1 } : aa) (.agg [vi a0, vi a1]) from rfl) 
    refine ld rfl rfl (ru rfl rfl (ai (TR.clo au.t b5) (ai (TR.clo aa.t (show aa.t.R ({ Header := a0, Field := a1 } : aa) (.agg [vi a0, vi a1]) from rfl)) bf)) f0) ?_
    obtain ⟨g2, e2, a6⟩ := bd.g_E r0
    refine ah rfl rfl (bw rfl e2) (ah rfl rfl (bv rfl (TR.cnt au.t a6) (TR.agg au.t a6)) (ah rfl rfl (ir (k := 0) a3 rfl rfl rfl) ?_))
    have e7 := ao3  a6 (show aa.t.R ({ Header := a0, Field := a1 } : aa) (.agg [vi a0, vi a1]) from rfl) 
    refine ld rfl rfl (ru rfl rfl (ai (TR.clo au.t a6) (ai (TR.clo aa.t (show aa.t.R ({ Header := a0, Field := a1 } : aa) (.agg [vi a0, vi a1]) from rfl)) bf)) e7) (ah rfl rfl (bq (a := bh (fm a2.1 ({ Header := a0, Field := a1 } : aa))) (b := bh (fm x0.E ({ Header := a0, Field := a1 } : aa))) rfl rfl bf9) ?_)
    exact gK rfl rfl rfl rfl rfl k
  refine nS ?_
  refine cg s rfl ?_ ?_ <;> clear s <;> intro c s <;> try simp only [qa] at c
  ·refine sR (mB rfl (nS ?_))
   exact rR s rfl rfl rfl
  ·refine az (de (aq (ay (mV rfl (bN gv rfl rfl (mV rfl (br (di ?_))))))))
   have hbd := en b6
   have hinc : wr (a1 + 1) = a1 + 1 := ee (by omega) (by omega)
   erw [hinc]
   exact wC (ih   (by omega) (by omega) (Mem.sub a3 (.cons _ (.cons_cons _ .slnil))) s) rfl

theorem ro {S : List Fr} {res : Bool} {x0 : bd} {c9 : Bool} {a1 : au × (List (List (BitVec 32)))} {a3 : (List aa) × (List Int) × (List Int)} {v0 b3 c0 c1 c7 c2 : PV} {a8 b7 : Nat} (r0 : bd.t.R x0 v0) (hE : EB x0.E) (hR : RB x0.Regs) (b9 : kg x0.P = c9) (a4 : (((!c9) || (decide (40 < (x0.Call.Args.length : Int)))) || (!(fc x0))) = false) (c5 : dt x0.P x0.Call x0.E x0.Regs = a1) (b8 : au.t.R a1.1 b3) (c4 : fb x0.P x0.Call.Action = a3) (e3 : (tSl aa.t).R a3.1 c1) (c8 : (tSl tI).R a3.2.1 c7) (a5 : (((!decide ((a1.1.Valid.length : Int) = (x0.E.Valid.length : Int))) || (!decide ((a1.2.length : Int) = (x0.Regs.length : Int)))) || (!decide (a1.1.Payload = x0.E.Payload))) = false) {K2 : Unit → Bool}
  (f3 : ∀ {h : Heap} (M0 : Mem h [⟨.op a8 b7 0, 46, 4, [b3]⟩]), K2 () = res → PX Tryz.prog 2 S (QR Tryz.prog [(2, none)] (RF8 res)) [(1, .fp v0), (4, c0), (7, c2)] h) :
  ∀ {m : Nat} {a0 : Int} (e5 : m = Int.toNat ((x0.P.Headers.length : Int) - a0)) (b6 : 0 ≤ a0) {h : Heap} (M0 : Mem h [⟨.op a8 b7 0, 46, 4, [b3]⟩]), ie x0 a1 a3 K2 m a0 = res → RC Tryz.prog (.loop dd9) S (QR Tryz.prog [(2, none)] (RF8 res)) [(10, vi a0), (7, c2), (6, c7), (5, c1), (4, c0), (3, .op a8 b7 0), (1, .fp v0)] h := by
 have b0 := a4
 try simp only [qa] at b0
 have b1 := a5
 try simp only [qa] at b1
 intro m
 induction m with
 | zero =>
  intro a0 e5 b6 h M0 s
  rw [ie] at s
  refine co (am (sR (mV rfl ?_)))
  obtain ⟨e6, d5, d8⟩ := bd.g_P r0
  refine fA rfl d5 (gL (ab.g_Headers d8) rfl rfl rfl fun f1 d9 => (ae (cv rfl (ci d9 Tryz.underlying22 _)) (bN cw rfl rfl (nS ?_))))
  refine cd rfl ?_ ?_ <;> intro c <;> try simp only [qa] at c
  ·omega
  refine fj (gg (dw ?_))
  exact wP (f3 (Mem.sub M0 (.cons_cons _ .slnil)) s) rfl
 | succ m ih =>
  intro a0 e5 b6 h M0 s
  rw [ie] at s
  refine co (am (sR (mV rfl ?_)))
  obtain ⟨f2, d4, e1⟩ := bd.g_P r0
  refine fA rfl d4 (gL (ab.g_Headers e1) rfl rfl rfl fun e7 d1 => (ae (cv rfl (ci d1 Tryz.underlying22 _)) (bN cw rfl rfl (nS ?_))))
  refine cd rfl (fun a2 => ?_) (fun a2 => ?_)
  ·have hgo := s
   have b2 := a2
   try simp only [qa] at b2
   refine az (aq (am (bm (am (sR (mV rfl (mV rfl ?_)))))))
   obtain ⟨c3, a6, s⟩ := bt s
   have d0 := bu5 (x1 := a0) c8 
   rw [a6] at d0
   refine cL d0 rfl rfl (ai (TR.clo (tSl tI) c8) (ai rfl bf)) (ae (ju rfl) (mV rfl ?_))
   refine cq 13 (d := 128) (v := vb ((!c3) && (!decide ((ix a1.1.Valid a0) = (ix x0.E.Valid a0))))) ?_ ?_
   ·intro S Q r
    cases c6 : (!c3)
    ·exact gN 12 rfl rfl rfl rfl rfl rfl
    ·intro k
     have b4 := c6
     try simp only [qa] at b4
     refine ah rfl rfl (bz rfl) ?_
     obtain ⟨f4, d2, d7⟩ := au.g_Valid b8
     refine ah rfl rfl (dj (k := 0) M0 rfl rfl d2) (ah rfl rfl (av rfl) (ah rfl rfl (bg rfl rfl (slB d7 (by first | omega | (have hk := ui (And.right (by assumption : _ ∧ fc x0 = true)); omega)) (by first | omega | (have hk := ui (And.right (by assumption : _ ∧ fc x0 = true)); omega)))) (ah rfl rfl (bv rfl rfl rfl) ?_)))
     obtain ⟨e8, e4, e2⟩ := bd.g_E r0
     refine ah rfl rfl (bw rfl e4) ?_
     obtain ⟨f0, d3, a9⟩ := au.g_Valid e2
     refine ah rfl rfl (bw rfl d3) (ah rfl rfl (bv rfl (TR.cnt (tSl tB) a9) (TR.agg (tSl tB) a9)) (ah rfl rfl (av rfl) (ah rfl rfl (bg rfl rfl (slB a9 (by first | omega | (have hk := ui (And.right (by assumption : _ ∧ fc x0 = true)); omega)) (by first | omega | (have hk := ui (And.right (by assumption : _ ∧ fc x0 = true)); omega)))) (ah rfl rfl (bv rfl rfl rfl) (ah rfl rfl (bq rfl rfl (as9 (by rw [Tryz.underlying4]; rfl))) ?_)))))
     exact gK rfl rfl rfl rfl rfl k
   refine nS ?_
   refine cg s rfl ?_ ?_ <;> clear s <;> intro a7 s <;> have b5 := a7 <;> try simp only [qa] at b5
   ·refine sR (mB rfl (nS ?_))
    exact rR s rfl rfl rfl
   ·refine az (aq (sR (mI rfl (nS (bm ?_)))))
    refine wC (ry r0 hE hR b9 a4 c5 b8 c4 e3 a5 b6 a2 a6 a7 ?_  rfl (by omega) (Mem.sub M0 (.cons_cons _ .slnil)) s) rfl
    ·intro e9 d6 s
     refine gm (de (aq (ay (mV rfl (bN gv rfl rfl (mV rfl (br (di ?_))))))))
     have hbd := en d1
     have hinc : wr (a0 + 1) = a0 + 1 := ee (by omega) (by omega)
     erw [hinc]
     exact wC (ih   (by omega) (by omega) (Mem.sub d6 (.cons_cons _ .slnil)) s) rfl
  ·exfalso
   try simp only [qa] at a2
   omega

theorem rn {S : List Fr} {res : Bool} {x0 : bd} {b9 : Bool} {a1 : au × (List (List (BitVec 32)))} {a9 : (List aa) × (List Int) × (List Int)} {v0 b2 b4 : PV} (r0 : bd.t.R x0 v0) (hE : EB x0.E) (hR : RB x0.Regs) (c5 : kg x0.P = b9) (b3 : (((!b9) || (decide (40 < (x0.Call.Args.length : Int)))) || (!(fc x0))) = false) (c8 : dt x0.P x0.Call x0.E x0.Regs = a1) (a3 : (tSl (tSl dn)).R a1.2 b2) (c7 : fb x0.P x0.Call.Action = a9) (b6 : (tSl tI).R a9.2.2 b4) (b7 : (((!decide ((a1.1.Valid.length : Int) = (x0.E.Valid.length : Int))) || (!decide ((a1.2.length : Int) = (x0.Regs.length : Int)))) || (!decide (a1.1.Payload = x0.E.Payload))) = false) {K6 : Unit → Bool}
  (d2 : ∀ {h : Heap} (M0 : Mem h []), K6 () = res → PX Tryz.prog 6 S (QR Tryz.prog [(2, none)] (RF8 res)) [] h) :
  ∀ {m : Nat} {a0 : Int} (c6 : m = Int.toNat ((a1.2.length : Int) - a0)) (b5 : 0 ≤ a0) {h : Heap} (M0 : Mem h []), ig x0 a1 a9 K6 m a0 = res → RC Tryz.prog (.loop dh0) S (QR Tryz.prog [(2, none)] (RF8 res)) [(13, vi a0), (7, b4), (4, b2), (1, .fp v0)] h := by
 have a5 := b3
 try simp only [qa] at a5
 have a6 := b7
 try simp only [qa] at a6
 intro m
 induction m with
 | zero =>
  intro a0 c6 b5 h M0 s
  rw [ig] at s
  refine co (am (sR (mV rfl (mV rfl (ae (cv rfl (ci a3 Tryz.underlying42 _)) (bN cw rfl rfl (nS ?_)))))))
  refine cd rfl ?_ ?_ <;> intro c <;> try simp only [qa] at c
  ·omega
  refine fj (gg (dw ?_))
  exact wP (d2 (Mem.sub M0 .slnil) s) rfl
 | succ m ih =>
  intro a0 c6 b5 h M0 s
  rw [ig] at s
  refine co (am (sR (mV rfl (mV rfl (ae (cv rfl (ci a3 Tryz.underlying42 _)) (bN cw rfl rfl (nS ?_)))))))
  refine cd rfl ?_ ?_ <;> intro c <;> try simp only [qa] at c
  rotate_left
  ·omega
  refine az (aq (am (bm (sR (mV rfl (mV rfl ?_))))))
  obtain ⟨c0, b1, s⟩ := bt s
  have b8 := bu5 (x1 := a0) b6 
  rw [b1] at b8
  refine cL b8 rfl rfl (ai (TR.clo (tSl tI) b6) (ai rfl bf)) (ae (ju rfl) (mV rfl ?_))
  refine cq 12 (d := 180) (v := vb ((!c0) && (!(jk (ix a1.2 a0) (ix x0.Regs a0))))) ?_ ?_
  ·intro S Q r
   cases b0 : (!c0)
   ·exact gN 11 rfl rfl rfl rfl rfl rfl
   ·intro k
    have a8 := b0
    try simp only [qa] at a8
    refine ah rfl rfl (av rfl) (ah rfl rfl (av rfl) ?_)
    obtain ⟨d0, c2, a4⟩ := dq (i := a0) a3 (by first | omega | (have hk := ui (And.right (by assumption : _ ∧ fc x0 = true)); omega)) (by first | omega | (have hk := ui (And.right (by assumption : _ ∧ fc x0 = true)); omega))
    refine ah rfl rfl (bg rfl rfl c2) (ah rfl rfl (bv rfl (TR.cnt (tSl dn) a4) (TR.agg (tSl dn) a4)) ?_)
    obtain ⟨c9, c1, a7⟩ := bd.g_Regs r0
    refine ah rfl rfl (bw rfl c1) (ah rfl rfl (bv rfl (TR.cnt (tSl (tSl dn)) a7) (TR.agg (tSl (tSl dn)) a7)) (ah rfl rfl (av rfl) ?_))
    obtain ⟨d1, c3, a2⟩ := dq (i := a0) a7 (by first | omega | (have hk := ui (And.right (by assumption : _ ∧ fc x0 = true)); omega)) (by first | omega | (have hk := ui (And.right (by assumption : _ ∧ fc x0 = true)); omega))
    refine ah rfl rfl (bg rfl rfl c3) (ah rfl rfl (bv rfl (TR.cnt (tSl dn) a2) (TR.agg (tSl dn) a2)) ?_)
    have c4 := cz0  a4 a2 
    refine ld rfl rfl (ru rfl rfl (ai (TR.clo (tSl dn) a4) (ai (TR.clo (tSl dn) a2) bf)) c4) (ah rfl rfl (ju rfl) ?_)
    exact gK rfl rfl rfl rfl rfl k
  refine nS ?_
  refine cg s rfl ?_ ?_ <;> clear s <;> intro c s <;> try simp only [qa] at c
  ·refine sR (mB rfl (nS ?_))
   exact rR s rfl rfl rfl
  ·refine az (de (aq (ay (mV rfl (bN gv rfl rfl (mV rfl (br (di ?_))))))))
   have hbd := en a3
   have hinc : wr (a0 + 1) = a0 + 1 := ee (by omega) (by omega)
   erw [hinc]
   exact wC (ih   (by omega) (by omega) (Mem.sub M0 .slnil) s) rfl

theorem dm1 {x0 : bd} {v0 : PV} (r0 : bd.t.R x0 v0) (hE : EB x0.E) (hR : RB x0.Regs) : FnR Tryz.prog 8 [v0] (vb (lg x0)) := by
 refine fnS (R := RF8) ds8 (fun _ h => h) rfl fun res s => ?_
 unfold lg at s
 refine sR (ae (dm rfl (TR.cnt bd.t r0)) (mB rfl (nS (am (sR (gL (bd.g_P r0) rfl rfl rfl fun h9 c5 => ?_))))))
 obtain ⟨a8, a2, s⟩ := bt s
 have c0 := dc6  c5 
 rw [a2] at c0
 refine cL c0 rfl rfl (ai (TR.clo ab.t c5) bf) (ae (ju rfl) (mV rfl ?_))
 refine cq 6 (d := 24) (v := vb ((!a8) || (decide (40 < (x0.Call.Args.length : Int))))) ?_ ?_
 ·intro S Q r
  cases d0 : (!a8)
  ·intro k
   have b0 := d0
   try simp only [qa] at b0
   obtain ⟨g6, f5, g3⟩ := bd.g_Call r0
   refine ah rfl rfl (bw rfl f5) ?_
   obtain ⟨i5, f0, b6⟩ := bn.g_Args g3
   refine ah rfl rfl (bw rfl f0) (ah rfl rfl (bv rfl (TR.cnt (tSl dn) b6) (TR.agg (tSl dn) b6)) (ah rfl rfl (cv rfl (ci b6 Tryz.underlying43 _)) (ah rfl rfl (bq rfl rfl nj) ?_)))
   exact gK rfl rfl rfl rfl rfl k
  ·exact gN 5 rfl rfl rfl rfl rfl rfl
 refine mV rfl ?_
 refine cq 4 (d := 29) (v := vb (((!a8) || (decide (40 < (x0.Call.Args.length : Int)))) || (!(fc x0)))) ?_ ?_
 ·intro S Q r
  cases c4 : ((!a8) || (decide (40 < (x0.Call.Args.length : Int))))
  ·intro k
   have a9 := c4
   try simp only [qa] at a9
   refine ah rfl rfl (bv rfl (TR.cnt bd.t r0) (TR.agg bd.t r0)) ?_
   have d9 := dg0  r0 
   refine ld rfl rfl (ru rfl rfl (ai (TR.clo bd.t r0) bf) d9) (ah rfl rfl (ju rfl) ?_)
   exact gK rfl rfl rfl rfl rfl k
  ·exact gN 3 rfl rfl rfl rfl rfl rfl
 refine nS ?_
 refine cg s rfl ?_ ?_ <;> clear s <;> intro a4 s <;> have b7 := a4 <;> try simp only [qa] at b7
 ·refine sR ?_
  obtain ⟨i8, d3, s⟩ := bt s
  have c3 := bv2   
  rw [d3] at c3
  refine cL c3 rfl rfl bf (mV rfl (nS ?_))
  exact rR s rfl rfl rfl
 ·refine az (aq (sR (gL (bd.g_P r0) rfl rfl rfl fun h4 d6 => (gL (bd.g_Call r0) rfl rfl rfl fun i7 c7 => (gL (bd.g_E r0) rfl rfl rfl fun g9 d4 => (gL (bd.g_Regs r0) rfl rfl rfl fun h0 d1 => ?_))))))
  obtain ⟨a0, a5, s⟩ := bt s
  obtain ⟨d5, i6, f3, a6, b4⟩ := da2  d6 c7 d4 d1 (by first | assumption | omega | (rw [ee (by omega) (by omega)]; omega) | (have hk := rval rfl (And.right (And.left (by assumption))); omega) | (have hk := rval (by assumption) (by assumption); omega) | (have hk := rval (by assumption) (And.left (by assumption)); omega) | (have hk := rval (by assumption) (And.left (And.left (by assumption))); have hz := rslc (by assumption); omega) | (simp; done) | (simp only [List.length_append, List.length_nil, List.length_cons]; omega) | (have hk := (dx (by assumption) (by assumption)).1; omega) | (simp only [List.length_cons, List.length_nil]; omega) | (simp only [List.length_append]; have hk := (dx (by assumption) (by assumption)).1; omega) | (simp only [List.length_append, List.length_nil]; have hk := (dx (by assumption) (by assumption)).1; omega)) (by first | assumption | omega | (rw [ee (by omega) (by omega)]; omega) | (have hk := rval rfl (And.right (And.left (by assumption))); omega) | (have hk := rval (by assumption) (by assumption); omega) | (have hk := rval (by assumption) (And.left (by assumption)); omega) | (have hk := rval (by assumption) (And.left (And.left (by assumption))); have hz := rslc (by assumption); omega) | (simp; done) | (simp only [List.length_append, List.length_nil, List.length_cons]; omega) | (have hk := (dx (by assumption) (by assumption)).1; omega) | (simp only [List.length_cons, List.length_nil]; omega) | (simp only [List.length_append]; have hk := (dx (by assumption) (by assumption)).1; omega) | (simp only [List.length_append, List.length_nil]; have hk := (dx (by assumption) (by assumption)).1; omega))
  rw [a5] at a6 b4
  refine cL f3 rfl rfl (ai (TR.clo ab.t d6) (ai (TR.clo bn.t c7) (ai (TR.clo au.t d4) (ai (TR.clo (tSl (tSl dn)) d1) bf)))) (mV rfl (xT rfl rfl (xT rfl rfl ?_)))
  refine ej (x := .agg [nilS, nilS, nilS, nilS]) (Mem.nil ⟨0, []⟩) rfl rfl (fun f4 e3 g8 e2 => ?_)
  refine ct (k := 0) (v := d5) e2 rfl rfl rfl (TR.cnt au.t a6) (fun d8 a7 => ?_)
  replace a7 : Mem d8 [⟨.op f4 e3 0, 46, 4, [d5]⟩] := a7
  refine mV rfl (nR (gL (bd.g_P r0) rfl rfl rfl fun i2 d2 => ?_))
  obtain ⟨j1, e1, e8⟩ := bd.g_Call r0
  refine fA rfl e1 (fL rfl (bn.g_Action e8) rfl rfl ?_)
  obtain ⟨j0, a1, s⟩ := bt s
  obtain ⟨h7, i0, g7, e7, b9, c2, c9⟩ := df9 (x1 := x0.Call.Action) d2 (by first | assumption | exact ci8 (by assumption) (by assumption) | exact ci8 (by assumption) (And.left (by assumption)) | exact ci8 (by assumption) (And.left (And.left (by assumption))) | exact ci8 (by assumption) (And.left (And.left (And.left (by assumption)))))
  rw [a1] at b9 c2 c9
  refine cL e7 rfl rfl (ai (TR.clo ab.t d2) (ai rfl bf)) (mV rfl (xT rfl rfl (xT rfl rfl (xT rfl rfl (mV rfl (mV rfl (mV rfl (nS ?_))))))))
  refine am (sR (ae (bz rfl) ?_))
  obtain ⟨i9, f7, e4⟩ := au.g_Valid a6
  refine ae (dj (k := 0) a7 rfl rfl f7) (ae (cv rfl (ci e4 Tryz.underlying41 _)) ?_)
  obtain ⟨h2, g2, f8⟩ := bd.g_E r0
  refine fA rfl g2 (gL (au.g_Valid f8) rfl rfl rfl fun i1 g5 => (ae (cv rfl (ci g5 Tryz.underlying41 _)) (bN mi rfl rfl (mV rfl ?_))))
  refine cq 7 (d := 68) (v := vb ((!decide ((a0.1.Valid.length : Int) = (x0.E.Valid.length : Int))) || (!decide ((a0.2.length : Int) = (x0.Regs.length : Int))))) ?_ ?_
  ·intro S Q r
   cases d7 : (!decide ((a0.1.Valid.length : Int) = (x0.E.Valid.length : Int)))
   ·intro k
    have b8 := d7
    try simp only [qa] at b8
    refine ah rfl rfl (av rfl) (ah rfl rfl (cv rfl (ci b4 Tryz.underlying42 _)) ?_)
    obtain ⟨i3, f9, b3⟩ := bd.g_Regs r0
    refine ah rfl rfl (bw rfl f9) (ah rfl rfl (bv rfl (TR.cnt (tSl (tSl dn)) b3) (TR.agg (tSl (tSl dn)) b3)) (ah rfl rfl (cv rfl (ci b3 Tryz.underlying42 _)) (ah rfl rfl (bq rfl rfl mi) ?_)))
    exact gK rfl rfl rfl rfl rfl k
   ·exact gN 6 rfl rfl rfl rfl rfl rfl
  refine mV rfl ?_
  refine cq 9 (d := 78) (v := vb (((!decide ((a0.1.Valid.length : Int) = (x0.E.Valid.length : Int))) || (!decide ((a0.2.length : Int) = (x0.Regs.length : Int)))) || (!decide (a0.1.Payload = x0.E.Payload)))) ?_ ?_
  ·intro S Q r
   cases c8 : ((!decide ((a0.1.Valid.length : Int) = (x0.E.Valid.length : Int))) || (!decide ((a0.2.length : Int) = (x0.Regs.length : Int))))
   ·intro k
    have b5 := c8
    try simp only [qa] at b5
    refine ah rfl rfl (bz rfl) ?_
    obtain ⟨g0, f6, e9⟩ := au.g_Payload a6
    refine ah rfl rfl (dj (k := 0) a7 rfl rfl f6) (ah rfl rfl (ue (a := g0) rfl (c_sb e9 Tryz.underlying44 Tryz.underlying5 Tryz.underlying9)) ?_)
    obtain ⟨h6, g1, f2⟩ := bd.g_E r0
    refine ah rfl rfl (bw rfl g1) ?_
    obtain ⟨e5, f1, b2⟩ := au.g_Payload f2
    refine ah rfl rfl (bw rfl f1) (ah rfl rfl (bv rfl (TR.cnt (tSl tU8) b2) (TR.agg (tSl tU8) b2)) (ah rfl rfl (ue (a := e5) rfl (c_sb b2 Tryz.underlying44 Tryz.underlying5 Tryz.underlying9)) (ah rfl rfl (bq (a := vs a0.1.Payload) (b := vs x0.E.Payload) rfl rfl cg3) ?_)))
    exact gK rfl rfl rfl rfl rfl k
   ·exact gN 8 rfl rfl rfl rfl rfl rfl
  refine nS ?_
  refine cg s rfl ?_ ?_ <;> clear s <;> intro a3 s <;> have b1 := a3 <;> try simp only [qa] at b1
  ·refine sR (mB rfl (nS ?_))
   exact rR s rfl rfl rfl
  ·refine az (aq (am (sR (mI rfl (nS (bm ?_))))))
   refine wC (rq r0 hE hR a2 a4 a5 a6 a1 b9 a3 ?_  rfl (by omega) (Mem.sub a7 (.cons_cons _ .slnil)) s) rfl
   ·intro i4 e6 s
    refine gm (aq (am (sR (mI rfl (nS (bm ?_))))))
    refine wC (ro r0 hE hR a2 a4 a5 a6 a1 b9 c2 a3 ?_  rfl (by omega) (Mem.sub e6 (.cons_cons _ .slnil)) s) rfl
    ·intro h8 g4 s
     refine gm (aq (am (sR (mI rfl (nS (bm ?_))))))
     refine wC (rn r0 hE hR a2 a4 a5 b4 a1 c9 a3 ?_  rfl (by omega) (Mem.sub g4 (.cons _ .slnil)) s) rfl
     ·intro h1 h3 s
      refine gm (aq (sR ?_))
      obtain ⟨h5, c1, s⟩ := bt s
      have c6 := bv2   
      rw [c1] at c6
      refine cL c6 rfl rfl bf (mV rfl (nS ?_))
      exact rR s rfl rfl rfl

end Go.Proofs.YtmonnlkagniolaaGreat
