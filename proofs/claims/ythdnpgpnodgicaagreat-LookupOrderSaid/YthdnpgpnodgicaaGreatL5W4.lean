/-
 The code of each function does what its plain program says.
-/
import Derived.Test.YthdnpgpnodgicaaGreatL5W3
set_option linter.unusedVariables false
set_option linter.unusedSimpArgs false
set_option maxRecDepth 100000
namespace Go.Proofs.YthdnpgpnodgicaaGreat
open Go Go.Pb Go.RowKit
def RF92 (res : Int) (r : PV) : Prop := r = vi res
theorem zh {S : List Fr} {res : Int} {x0 : aa} {x1 : Int} {a9 : Bool} {v0 : PV} (r0 : aa.t.R x0 v0) (c6 : fe x0 x1 = a9) (a5 : (!a9) = false) {K0 : Int → Int}
  (d1 : ∀ {a1 : Int}, K0 a1 = res → PX Tryz.prog 0 S (QR Tryz.prog [(4, none)] (RF92 res)) [(5, vi a1)] ⟨0, []⟩) :
  ∀ {m : Nat} {a1 a0 : Int} (c7 : m = Int.toNat ((((ix x0.Tables x1).Keys).length : Int) - a0)) (a7 : 0 ≤ a0), fq x0 x1 K0 m a1 a0 = res → RC Tryz.prog (.loop ct0) S (QR Tryz.prog [(4, none)] (RF92 res)) [(6, vi a0), (5, vi a1), (2, .fp v0), (1, vi x1)] ⟨0, []⟩ := by
 have a3 := a5
 try simp only [qa] at a3
 intro m
 induction m with
 | zero =>
  intro a1 a0 c7 a7 hres
  rw [fq] at hres
  refine bq (ae (sR (mV rfl ?_)))
  obtain ⟨d8, b6, a6⟩ := aa.g_Tables r0
  refine fA rfl b6 (lD a6 rfl rfl rfl (mV rfl ?_))
  obtain ⟨c9, b4, c1⟩ := cx (i := x1) a6 (by first | omega | (have hk := bb (by assumption) (by assumption); omega) | (have hk := tck (by assumption) (by assumption); omega) | (have hk := rtck (by assumption) (by assumption); omega) | (have hk := eck (by assumption) (by assumption) (by assumption); omega) | (have hk := tv (by assumption) (by assumption); omega) | (have hk := rtv (by assumption) (by assumption); omega)) (by first | omega | (have hk := bb (by assumption) (by assumption); omega) | (have hk := tck (by assumption) (by assumption); omega) | (have hk := rtck (by assumption) (by assumption); omega) | (have hk := eck (by assumption) (by assumption) (by assumption); omega) | (have hk := tv (by assumption) (by assumption); omega) | (have hk := rtv (by assumption) (by assumption); omega))
  refine ab (bn rfl rfl b4) ?_
  obtain ⟨d3, c5, a8⟩ := ax.g_Keys c1
  refine fA rfl c5 (lD a8 rfl rfl rfl (ab (cd rfl (br a8 Tryz.underlying85 _)) (bN co rfl rfl (nS ?_))))
  refine bg rfl ?_ ?_ <;> intro c <;> try simp only [qa] at c
  ·omega
  refine dm (dx (cy ?_))
  exact wP (d1  hres) rfl
 | succ m ih =>
  intro a1 a0 c7 a7 hres
  rw [fq] at hres
  refine bq (ae (sR (mV rfl (gL (aa.g_Tables r0) rfl rfl rfl fun d7 c4 => (mV rfl ?_)))))
  obtain ⟨d6, c0, c3⟩ := cx (i := x1) c4 (by first | omega | (have hk := bb (by assumption) (by assumption); omega) | (have hk := tck (by assumption) (by assumption); omega) | (have hk := rtck (by assumption) (by assumption); omega) | (have hk := eck (by assumption) (by assumption) (by assumption); omega) | (have hk := tv (by assumption) (by assumption); omega) | (have hk := rtv (by assumption) (by assumption); omega)) (by first | omega | (have hk := bb (by assumption) (by assumption); omega) | (have hk := tck (by assumption) (by assumption); omega) | (have hk := rtck (by assumption) (by assumption); omega) | (have hk := eck (by assumption) (by assumption) (by assumption); omega) | (have hk := tv (by assumption) (by assumption); omega) | (have hk := rtv (by assumption) (by assumption); omega))
  refine ab (bn rfl rfl c0) ?_
  obtain ⟨d5, b1, a2⟩ := ax.g_Keys c3
  refine fA rfl b1 (lD a2 rfl rfl rfl (ab (cd rfl (br a2 Tryz.underlying85 _)) (bN co rfl rfl (nS ?_))))
  refine bg rfl ?_ ?_ <;> intro c <;> try simp only [qa] at c
  rotate_left
  ·omega
  refine az (af (ae (bf (ah (mV rfl ?_)))))
  obtain ⟨d0, b2, b0⟩ := aa.g_Tables r0
  refine fA rfl b2 (lD b0 rfl rfl rfl (mV rfl ?_))
  obtain ⟨d2, b5, b7⟩ := cx (i := x1) b0 (by first | omega | (have hk := bb (by assumption) (by assumption); omega) | (have hk := tck (by assumption) (by assumption); omega) | (have hk := rtck (by assumption) (by assumption); omega) | (have hk := eck (by assumption) (by assumption) (by assumption); omega) | (have hk := tv (by assumption) (by assumption); omega) | (have hk := rtv (by assumption) (by assumption); omega)) (by first | omega | (have hk := bb (by assumption) (by assumption); omega) | (have hk := tck (by assumption) (by assumption); omega) | (have hk := rtck (by assumption) (by assumption); omega) | (have hk := eck (by assumption) (by assumption) (by assumption); omega) | (have hk := tv (by assumption) (by assumption); omega) | (have hk := rtv (by assumption) (by assumption); omega))
  refine ab (bn rfl rfl b5) ?_
  obtain ⟨d4, b8, a4⟩ := ax.g_Keys b7
  refine fA rfl b8 (lD a4 rfl rfl rfl (mV rfl ?_))
  obtain ⟨c8, b9, b3⟩ := cx (i := a0) a4 (by first | omega | (have hk := bb (by assumption) (by assumption); omega) | (have hk := tck (by assumption) (by assumption); omega) | (have hk := rtck (by assumption) (by assumption); omega) | (have hk := eck (by assumption) (by assumption) (by assumption); omega) | (have hk := tv (by assumption) (by assumption); omega) | (have hk := rtv (by assumption) (by assumption); omega)) (by first | omega | (have hk := bb (by assumption) (by assumption); omega) | (have hk := tck (by assumption) (by assumption); omega) | (have hk := rtck (by assumption) (by assumption); omega) | (have hk := eck (by assumption) (by assumption) (by assumption); omega) | (have hk := tv (by assumption) (by assumption); omega) | (have hk := rtv (by assumption) (by assumption); omega))
  refine ab (bn rfl rfl b9) (fL rfl (bh.g_Kind b3) rfl rfl (ab (cd rfl (ac1 _ _)) (mV rfl (aw (dg (af (ah (mV rfl ?_))))))))
  refine bN eg rfl rfl (mV rfl (aw (ct ?_)))
  have hbd := du a2
  have hinc : wr (a0 + 1) = a0 + 1 := dw (by omega) (by omega)
  erw [hinc]
  exact wC (ih   (by omega) (by omega) hres) rfl

theorem cx4 {x0 : aa} {x1 : Int} {v0 : PV} (r0 : aa.t.R x0 v0) : FnR Tryz.prog 92 [v0, vi x1] (vi (lc x0 x1)) := by
 refine fnS (R := RF92) di2 (fun _ h => h) rfl fun res hres => ?_
 unfold lc at hres
 refine sR (ab (dh rfl (TR.cnt aa.t r0)) (mI rfl (nS (ae (sR (lD r0 rfl rfl rfl (mV rfl ?_)))))))
 obtain ⟨a5, a0, hres⟩ := dc hres
 have a3 := ay5 (x1 := x1) r0 
 rw [a0] at a3
 refine cL a3 rfl rfl (aq (TR.clo aa.t r0) (aq rfl bm)) (ab (gc rfl) (nS ?_))
 refine cq hres rfl ?_ ?_ <;> clear hres <;> intro a1 hres <;> have a2 := a1 <;> try simp only [qa] at a2
 ·refine sR (mI rfl (nS ?_))
  exact rR hres rfl rfl rfl
 ·refine az (af (sR (mI rfl (nS (ae (sR (mI rfl (nS ?_))))))))
  refine bf ?_
  refine wC (zh r0 a0 a1 ?_  rfl (by omega) hres) rfl
  ·intro a4 hres
   refine fd (af (sR (mV rfl (mV rfl (nS ?_)))))
   exact rR hres rfl rfl rfl

def RF93 (res : Bool) (r : PV) : Prop := r = vb res
theorem dh0 {x0 : aa} {x1 x2 : Int} {v0 : PV} (r0 : aa.t.R x0 v0) : FnR Tryz.prog 93 [v0, vi x1, vi x2] (vb (pg x0 x1 x2)) := by
 refine fnS (R := RF93) dc9 (fun _ h => h) rfl fun res hres => ?_
 unfold pg at hres
 refine sR (ab (dh rfl (TR.cnt aa.t r0)) (mB rfl (nR (lD r0 rfl rfl rfl (mV rfl ?_)))))
 obtain ⟨a5, a4, hres⟩ := dc hres
 have a6 := ay5 (x1 := x1) r0 
 rw [a4] at a6
 refine cL a6 rfl rfl (aq (TR.clo aa.t r0) (aq rfl bm)) (mV rfl ?_)
 refine bv 10 (d := 20) (v := vb (a5 && (decide (0 ≤ (gg ((ix x0.Tables x1).Actions) x2))))) ?_ ?_
 ·intro S Q r
  cases a3 : a5
  ·exact gN 9 rfl rfl rfl rfl rfl rfl
  ·intro k
   have a2 := a3
   try simp only [qa] at a2
   obtain ⟨b4, a9, a1⟩ := aa.g_Tables r0
   refine ai rfl rfl (bc rfl a9) (ai rfl rfl (ba rfl (TR.cnt (tSl ax.t) a1) (TR.agg (tSl ax.t) a1)) (ai rfl rfl (am rfl) ?_))
   obtain ⟨b2, a7, b0⟩ := cx (i := x1) a1 (by first | omega | (have hk := bb (by assumption) (by assumption); omega) | (have hk := tck (by assumption) (by assumption); omega) | (have hk := rtck (by assumption) (by assumption); omega) | (have hk := eck (by assumption) (by assumption) (by assumption); omega) | (have hk := tv (by assumption) (by assumption); omega) | (have hk := rtv (by assumption) (by assumption); omega)) (by first | omega | (have hk := bb (by assumption) (by assumption); omega) | (have hk := tck (by assumption) (by assumption); omega) | (have hk := rtck (by assumption) (by assumption); omega) | (have hk := eck (by assumption) (by assumption) (by assumption); omega) | (have hk := tv (by assumption) (by assumption); omega) | (have hk := rtv (by assumption) (by assumption); omega))
   refine ai rfl rfl (bn rfl rfl a7) ?_
   obtain ⟨b3, b1, a0⟩ := ax.g_Actions b0
   refine ai rfl rfl (bc rfl b1) (ai rfl rfl (ba rfl (TR.cnt (tSl tI) a0) (TR.agg (tSl tI) a0)) (ai rfl rfl (am rfl) ?_))
   have a8 := ar4 (x1 := x2) a0 
   refine fu rfl rfl (mb rfl rfl (aq (TR.clo (tSl tI) a0) (aq rfl bm)) a8) (ai rfl rfl (bd rfl rfl oa) ?_)
   exact gK rfl rfl rfl rfl rfl k
 refine mV rfl (nS ?_)
 exact rR hres rfl rfl rfl

def RF48 (res : Int) (r : PV) : Prop := r = vi res
theorem yc {S : List Fr} {res : Int} {x0 : aa} {x1 : Int} {x2 : au} {b2 : Int × Int} {a1 : (List Int)} {v0 v2 b0 : PV} (r0 : aa.t.R x0 v0) (r2 : au.t.R x2 v2) (c3 : fc x0 x1 = b2) (a6 : (!decide (b2.2 = 0)) = false) (c5 : db x0 x1 = a1) (a2 : (tSl tI).R a1 b0) (c6 : (0 ≤ x1 ∧ x1 < x0.Tables.length) ∧ a1.length = (ix x0.Tables x1).Keys.length ∧ a1.length ≤ 6) (a7 : (!decide ((x2.Keys.length : Int) = (a1.length : Int))) = false) {K0 : Unit → Int}
  (d0 : K0 () = res → PX Tryz.prog 0 S (QR Tryz.prog [(6, none)] (RF48 res)) [(1, vi x1), (3, .fp v0), (5, .fp v2)] ⟨0, []⟩) :
  ∀ {m : Nat} {a0 : Int} (c4 : m = Int.toNat ((a1.length : Int) - a0)) (a8 : 0 ≤ a0), jg x0 x1 x2 a1 K0 m a0 = res → RC Tryz.prog (.loop ch5) S (QR Tryz.prog [(6, none)] (RF48 res)) [(10, vi a0), (9, b0), (5, .fp v2), (3, .fp v0), (1, vi x1)] ⟨0, []⟩ := by
 have a5 := a6
 try simp only [qa] at a5
 have a3 := a7
 try simp only [qa] at a3
 intro m
 induction m with
 | zero =>
  intro a0 c4 a8 hres
  rw [jg] at hres
  refine bq (ae (sR (mV rfl (mV rfl (ab (cd rfl (br a2 Tryz.underlying29 _)) (bN co rfl rfl (nS ?_)))))))
  refine bg rfl ?_ ?_ <;> intro c <;> try simp only [qa] at c
  ·omega
  refine dm (dx (cy ?_))
  exact wP (d0  hres) rfl
 | succ m ih =>
  intro a0 c4 a8 hres
  rw [jg] at hres
  refine bq (ae (sR (mV rfl (mV rfl (ab (cd rfl (br a2 Tryz.underlying29 _)) (bN co rfl rfl (nS ?_)))))))
  refine bg rfl ?_ ?_ <;> intro c <;> try simp only [qa] at c
  rotate_left
  ·omega
  refine az (af (ae (bf (sR (gL (au.g_Keys r2) rfl rfl rfl fun d4 b8 => (mV rfl ?_))))))
  obtain ⟨d2, c1, a4⟩ := cx (i := a0) b8 (by first | omega | (have hk := bb (by assumption) (by assumption); omega) | (have hk := tck (by assumption) (by assumption); omega) | (have hk := rtck (by assumption) (by assumption); omega) | (have hk := eck (by assumption) (by assumption) (by assumption); omega) | (have hk := tv (by assumption) (by assumption); omega) | (have hk := rtv (by assumption) (by assumption); omega)) (by first | omega | (have hk := bb (by assumption) (by assumption); omega) | (have hk := tck (by assumption) (by assumption); omega) | (have hk := rtck (by assumption) (by assumption); omega) | (have hk := eck (by assumption) (by assumption) (by assumption); omega) | (have hk := tv (by assumption) (by assumption); omega) | (have hk := rtv (by assumption) (by assumption); omega))
  refine ab (bn rfl rfl c1) (lD a4 rfl rfl rfl (mV rfl (mV rfl (ab (bn rfl rfl (slI a2 (by first | omega | (have hk := bb (by assumption) (by assumption); omega) | (have hk := tck (by assumption) (by assumption); omega) | (have hk := rtck (by assumption) (by assumption); omega) | (have hk := eck (by assumption) (by assumption) (by assumption); omega) | (have hk := tv (by assumption) (by assumption); omega) | (have hk := rtv (by assumption) (by assumption); omega)) (by first | omega | (have hk := bb (by assumption) (by assumption); omega) | (have hk := tck (by assumption) (by assumption); omega) | (have hk := rtck (by assumption) (by assumption); omega) | (have hk := eck (by assumption) (by assumption) (by assumption); omega) | (have hk := tv (by assumption) (by assumption); omega) | (have hk := rtv (by assumption) (by assumption); omega)))) (lR rfl rfl rfl ?_)))))
  obtain ⟨c9, b5, b3⟩ := aa.g_Tables r0
  refine fA rfl b5 (lD b3 rfl rfl rfl (mV rfl ?_))
  obtain ⟨d1, b7, b9⟩ := cx (i := x1) b3 (by first | omega | (have hk := bb (by assumption) (by assumption); omega) | (have hk := tck (by assumption) (by assumption); omega) | (have hk := rtck (by assumption) (by assumption); omega) | (have hk := eck (by assumption) (by assumption) (by assumption); omega) | (have hk := tv (by assumption) (by assumption); omega) | (have hk := rtv (by assumption) (by assumption); omega)) (by first | omega | (have hk := bb (by assumption) (by assumption); omega) | (have hk := tck (by assumption) (by assumption); omega) | (have hk := rtck (by assumption) (by assumption); omega) | (have hk := eck (by assumption) (by assumption) (by assumption); omega) | (have hk := tv (by assumption) (by assumption); omega) | (have hk := rtv (by assumption) (by assumption); omega))
  refine ab (bn rfl rfl b7) (gL (ax.g_Keys b9) rfl rfl rfl fun d3 b4 => (mV rfl ?_))
  obtain ⟨c8, c0, b6⟩ := cx (i := a0) b4 (by first | omega | (have hk := bb (by assumption) (by assumption); omega) | (have hk := tck (by assumption) (by assumption); omega) | (have hk := rtck (by assumption) (by assumption); omega) | (have hk := eck (by assumption) (by assumption) (by assumption); omega) | (have hk := tv (by assumption) (by assumption); omega) | (have hk := rtv (by assumption) (by assumption); omega)) (by first | omega | (have hk := bb (by assumption) (by assumption); omega) | (have hk := tck (by assumption) (by assumption); omega) | (have hk := rtck (by assumption) (by assumption); omega) | (have hk := eck (by assumption) (by assumption) (by assumption); omega) | (have hk := tv (by assumption) (by assumption); omega) | (have hk := rtv (by assumption) (by assumption); omega))
  refine ab (bn rfl rfl c0) (fL rfl (bh.g_Kind b6) rfl rfl ?_)
  obtain ⟨c7, b1, hres⟩ := dc hres
  have a9 := dh1 (x1 := (ix a1 a0)) (x2 := (ix ((ix x0.Tables x1).Keys) a0).Kind) a4 
  rw [b1] at a9
  refine cL a9 rfl rfl (aq (TR.clo ay.t a4) (aq rfl (aq rfl bm))) (mV rfl (nR (mV rfl (bN jk rfl rfl (nS ?_)))))
  refine cq hres rfl ?_ ?_ <;> clear hres <;> intro c hres <;> try simp only [qa] at c
  ·refine sR (mV rfl (mV rfl (nS ?_)))
   exact rR hres rfl rfl rfl
  ·refine az (dg (af (ah (mV rfl (bN eg rfl rfl (mV rfl (aw (ct ?_))))))))
   have hbd := du a2
   have hinc : wr (a0 + 1) = a0 + 1 := dw (by omega) (by omega)
   erw [hinc]
   exact wC (ih   (by omega) (by omega) hres) rfl

theorem dk0 {x0 : aa} {x1 : Int} {x2 : au} {v0 v2 : PV} (r0 : aa.t.R x0 v0) (r2 : au.t.R x2 v2) : FnR Tryz.prog 48 [v0, vi x1, v2] (vi (ke x0 x1 x2)) := by
 refine fnS (R := RF48) dg4 (fun _ h => h) rfl fun res hres => ?_
 unfold ke at hres
 refine sR (ab (dh rfl (TR.cnt aa.t r0)) (ab (dh rfl (TR.cnt au.t r2)) (mI rfl (nR (lD r0 rfl rfl rfl (mV rfl ?_))))))
 obtain ⟨d0, a3, hres⟩ := dc hres
 have b7 := ay4 (x1 := x1) r0 
 rw [a3] at b7
 refine cL b7 rfl rfl (aq (TR.clo aa.t r0) (aq rfl bm)) (mV rfl (xT rfl rfl (xT rfl rfl (mV rfl (mV rfl (nS (ae (sR ?_))))))))
 refine mV rfl (bN jk rfl rfl (nS ?_))
 refine cq hres rfl ?_ ?_ <;> clear hres <;> intro a1 hres <;> have a8 := a1 <;> try simp only [qa] at a8
 ·refine sR (mV rfl (mV rfl (nS ?_)))
  exact rR hres rfl rfl rfl
 ·refine az (af (sR (lD r0 rfl rfl rfl (mV rfl ?_))))
  obtain ⟨b0, a0, hres⟩ := dc hres
  obtain ⟨c9, c3, a6⟩ := cz1 (x1 := x1) r0 
  rw [a0] at a6
  have b9 : (0 ≤ x1 ∧ x1 < x0.Tables.length) ∧ b0.length = (ix x0.Tables x1).Keys.length ∧ b0.length ≤ 6 := reck (by assumption) (by assumption) a0
  refine cL c3 rfl rfl (aq (TR.clo aa.t r0) (aq rfl bm)) (mV rfl (nS (ae (sR ?_))))
  obtain ⟨d2, c5, b3⟩ := au.g_Keys r2
  refine fA rfl c5 (lD b3 rfl rfl rfl (ab (cd rfl (br b3 Tryz.underlying38 _)) (mV rfl (ab (cd rfl (br a6 Tryz.underlying29 _)) (bN jk rfl rfl (nS ?_))))))
  refine cq hres rfl ?_ ?_ <;> clear hres <;> intro a2 hres <;> have a5 := a2 <;> try simp only [qa] at a5
  ·refine sR (mI rfl (nS ?_))
   exact rR hres rfl rfl rfl
  ·refine az (af (ae (sR (mI rfl (nS (bf ?_))))))
   refine wC (yc r0 r2 a3 a1 a0 a6 b9 a2 ?_  rfl (by omega) hres) rfl
   ·intro  hres
    refine fd (af (ae (bf (sR (fL rfl (au.g_Priority r2) rfl rfl (bN co rfl rfl (mV rfl ?_)))))))
    refine bv 4 (d := 66) (v := vb ((decide (x2.Priority < 0)) || (decide (255 < x2.Priority)))) ?_ ?_
    ·intro S Q r
     cases b4 : (decide (x2.Priority < 0))
     ·intro k
      have a4 := b4
      try simp only [qa] at a4
      refine ai rfl rfl (bc rfl (au.g_Priority r2)) (ai rfl rfl (ba rfl rfl rfl) (ai rfl rfl (bd rfl rfl gi) ?_))
      exact gK rfl rfl rfl rfl rfl k
     ·exact gN 3 rfl rfl rfl rfl rfl rfl
    refine mV rfl (nS ?_)
    refine cq hres rfl ?_ ?_ <;> clear hres <;> intro c hres <;> try simp only [qa] at c
    ·refine sR (mI rfl (nS ?_))
     exact rR hres rfl rfl rfl
    ·refine sR (fL rfl (au.g_Priority r2) rfl rfl (bN gi rfl rfl (mV rfl ?_)))
     refine bv 5 (d := 76) (v := vb ((decide (0 < x2.Priority)) && (!decide ((lc x0 x1) = 3)))) ?_ ?_
     ·intro S Q r
      cases b8 : (decide (0 < x2.Priority))
      ·exact gN 4 rfl rfl rfl rfl rfl rfl
      ·intro k
       have a7 := b8
       try simp only [qa] at a7
       refine ai rfl rfl (ba rfl (TR.cnt aa.t r0) (TR.agg aa.t r0)) (ai rfl rfl (am rfl) ?_)
       have c1 := cx4 (x1 := x1) r0 
       refine fu rfl rfl (mb rfl rfl (aq (TR.clo aa.t r0) (aq rfl bm)) c1) (ai rfl rfl (bd rfl rfl jk) ?_)
       exact gK rfl rfl rfl rfl rfl k
     refine mV rfl (nS ?_)
     refine cq hres rfl ?_ ?_ <;> clear hres <;> intro c hres <;> try simp only [qa] at c
     ·refine sR (mI rfl (nS ?_))
      exact rR hres rfl rfl rfl
     ·refine sR (lD r0 rfl rfl rfl (mV rfl ?_))
      obtain ⟨c7, c4, c0⟩ := au.g_Call r2
      refine fA rfl c4 (fL rfl (av.g_Action c0) rfl rfl ?_)
      obtain ⟨c6, b6, hres⟩ := dc hres
      have a9 := dh0 (x1 := x1) (x2 := x2.Call.Action) r0 
      rw [b6] at a9
      refine cL a9 rfl rfl (aq (TR.clo aa.t r0) (aq rfl (aq rfl bm))) (ab (gc rfl) (mV rfl (nS ?_)))
      refine cq hres rfl ?_ ?_ <;> clear hres <;> intro c hres <;> try simp only [qa] at c
      ·refine sR (mI rfl (nS ?_))
       exact rR hres rfl rfl rfl
      ·refine az (dg (af (sR (lD r0 rfl rfl rfl (gL (au.g_Call r2) rfl rfl rfl fun d1 b5 => ?_)))))
       obtain ⟨c8, b1, hres⟩ := dc hres
       have b2 := bw2  r0 b5 
       rw [b1] at b2
       refine cL b2 rfl rfl (aq (TR.clo aa.t r0) (aq (TR.clo av.t b5) bm)) (mV rfl (nS ?_))
       exact rR hres rfl rfl rfl

def RF16 (res : Int) (r : PV) : Prop := r = vi res
theorem xu {S : List Fr} {res : Int} {x0 : aa} {x1 : Int} {x2 : List aj} {b1 : Int × Int} {a1 b4 : Int} {v0 v2 : PV} (r2 : (tSl aj.t).R x2 v2) (c7 : fc x0 x1 = b1) (a8 : (!decide (b1.2 = 0)) = false) (d2 : 0 ≤ a1) (a9 : (decide (a1 < (x2.length : Int))) = true) (c9 : ke x0 x1 ((ix x2 a1).Entry) = b4) (b2 : (!decide (b4 = 0)) = false) {K2 : Unit → Int}
  (d5 : K2 () = res → PX Tryz.prog 2 S (QR Tryz.prog [(6, none)] (RF16 res)) [(1, vi x1), (2, v2), (3, .fp v0), (9, vi a1)] ⟨0, []⟩) :
  ∀ {m : Nat} {a0 : Int} (c8 : m = Int.toNat (a1 - a0)) (b0 : 0 ≤ a0), kf x2 a1 K2 m a0 = res → RC Tryz.prog (.loop cl9) S (QR Tryz.prog [(6, none)] (RF16 res)) [(10, vi a0), (9, vi a1), (3, .fp v0), (2, v2), (1, vi x1)] ⟨0, []⟩ := by
 have a7 := a8
 try simp only [qa] at a7
 have a4 := a9
 try simp only [qa] at a4
 have a5 := b2
 try simp only [qa] at a5
 intro m
 induction m with
 | zero =>
  intro a0 c8 b0 hres
  rw [kf] at hres
  refine bq (ae (sR (mV rfl (mV rfl (bN co rfl rfl (nS ?_))))))
  refine bg rfl ?_ ?_ <;> intro c <;> try simp only [qa] at c
  ·omega
  refine dm (dx (cy ?_))
  exact wP (d5  hres) rfl
 | succ m ih =>
  intro a0 c8 b0 hres
  rw [kf] at hres
  refine bq (ae (sR (mV rfl (mV rfl (bN co rfl rfl (nS ?_))))))
  refine bg rfl ?_ ?_ <;> intro c <;> try simp only [qa] at c
  rotate_left
  ·omega
  refine az (af (ae (bf (sR (mV rfl (mV rfl ?_))))))
  obtain ⟨d3, b5, c6⟩ := cx (i := a0) r2 (by first | omega | (have hk := bb (by assumption) (by assumption); omega) | (have hk := tck (by assumption) (by assumption); omega) | (have hk := rtck (by assumption) (by assumption); omega) | (have hk := eck (by assumption) (by assumption) (by assumption); omega) | (have hk := tv (by assumption) (by assumption); omega) | (have hk := rtv (by assumption) (by assumption); omega)) (by first | omega | (have hk := bb (by assumption) (by assumption); omega) | (have hk := tck (by assumption) (by assumption); omega) | (have hk := rtck (by assumption) (by assumption); omega) | (have hk := eck (by assumption) (by assumption) (by assumption); omega) | (have hk := tv (by assumption) (by assumption); omega) | (have hk := rtv (by assumption) (by assumption); omega))
  refine ab (bn rfl rfl b5) (fL rfl (aj.g_ID c6) rfl rfl (mV rfl (mV rfl ?_)))
  obtain ⟨d6, b7, c3⟩ := cx (i := a1) r2 (by first | omega | (have hk := bb (by assumption) (by assumption); omega) | (have hk := tck (by assumption) (by assumption); omega) | (have hk := rtck (by assumption) (by assumption); omega) | (have hk := eck (by assumption) (by assumption) (by assumption); omega) | (have hk := tv (by assumption) (by assumption); omega) | (have hk := rtv (by assumption) (by assumption); omega)) (by first | omega | (have hk := bb (by assumption) (by assumption); omega) | (have hk := tck (by assumption) (by assumption); omega) | (have hk := rtck (by assumption) (by assumption); omega) | (have hk := eck (by assumption) (by assumption) (by assumption); omega) | (have hk := tv (by assumption) (by assumption); omega) | (have hk := rtv (by assumption) (by assumption); omega))
  refine ab (bn rfl rfl b7) (fL rfl (aj.g_ID c3) rfl rfl (bN lh rfl rfl (mV rfl ?_)))
  refine bv 12 (d := 65) (v := vb ((decide (((ix x2 a0).ID) = ((ix x2 a1).ID))) || (gb ((ix x2 a0).Entry) ((ix x2 a1).Entry)))) ?_ ?_
  ·intro S Q r
   cases b3 : (decide (((ix x2 a0).ID) = ((ix x2 a1).ID)))
   ·intro k
    have a6 := b3
    try simp only [qa] at a6
    refine ai rfl rfl (am rfl) (ai rfl rfl (am rfl) ?_)
    obtain ⟨d0, c4, b6⟩ := cx (i := a0) r2 (by first | omega | (have hk := bb (by assumption) (by assumption); omega) | (have hk := tck (by assumption) (by assumption); omega) | (have hk := rtck (by assumption) (by assumption); omega) | (have hk := eck (by assumption) (by assumption) (by assumption); omega) | (have hk := tv (by assumption) (by assumption); omega) | (have hk := rtv (by assumption) (by assumption); omega)) (by first | omega | (have hk := bb (by assumption) (by assumption); omega) | (have hk := tck (by assumption) (by assumption); omega) | (have hk := rtck (by assumption) (by assumption); omega) | (have hk := eck (by assumption) (by assumption) (by assumption); omega) | (have hk := tv (by assumption) (by assumption); omega) | (have hk := rtv (by assumption) (by assumption); omega))
    refine ai rfl rfl (bn rfl rfl c4) ?_
    obtain ⟨d4, b9, a2⟩ := aj.g_Entry b6
    refine ai rfl rfl (bc rfl b9) (ai rfl rfl (ba rfl (TR.cnt au.t a2) (TR.agg au.t a2)) (ai rfl rfl (am rfl) (ai rfl rfl (am rfl) ?_)))
    obtain ⟨d1, c1, c5⟩ := cx (i := a1) r2 (by first | omega | (have hk := bb (by assumption) (by assumption); omega) | (have hk := tck (by assumption) (by assumption); omega) | (have hk := rtck (by assumption) (by assumption); omega) | (have hk := eck (by assumption) (by assumption) (by assumption); omega) | (have hk := tv (by assumption) (by assumption); omega) | (have hk := rtv (by assumption) (by assumption); omega)) (by first | omega | (have hk := bb (by assumption) (by assumption); omega) | (have hk := tck (by assumption) (by assumption); omega) | (have hk := rtck (by assumption) (by assumption); omega) | (have hk := eck (by assumption) (by assumption) (by assumption); omega) | (have hk := tv (by assumption) (by assumption); omega) | (have hk := rtv (by assumption) (by assumption); omega))
    refine ai rfl rfl (bn rfl rfl c1) ?_
    obtain ⟨d7, c0, a3⟩ := aj.g_Entry c5
    refine ai rfl rfl (bc rfl c0) (ai rfl rfl (ba rfl (TR.cnt au.t a3) (TR.agg au.t a3)) ?_)
    have b8 := bt3  a2 a3 
    refine fu rfl rfl (mb rfl rfl (aq (TR.clo au.t a2) (aq (TR.clo au.t a3) bm)) b8) ?_
    exact gK rfl rfl rfl rfl rfl k
   ·exact gN 11 rfl rfl rfl rfl rfl rfl
  refine nS ?_
  refine cq hres rfl ?_ ?_ <;> clear hres <;> intro c hres <;> try simp only [qa] at c
  ·refine sR (mI rfl (nS ?_))
   exact rR hres rfl rfl rfl
  ·refine az (dg (af (ah (mV rfl (bN eg rfl rfl (mV rfl (aw (ct ?_))))))))
   have hinc : wr (a0 + 1) = a0 + 1 := dw (by omega) (by have hk : x2.length ≤ 9223372036854775807 := r2.2; omega)
   erw [hinc]
   exact wC (ih   (by omega) (by omega) hres) rfl

theorem yz {S : List Fr} {res : Int} {x0 : aa} {x1 : Int} {x2 : List aj} {b2 : Int × Int} {v0 v2 : PV} (r0 : aa.t.R x0 v0) (r2 : (tSl aj.t).R x2 v2) (b0 : fc x0 x1 = b2) (a2 : (!decide (b2.2 = 0)) = false) {K0 : Unit → Int}
  (b6 : K0 () = res → PX Tryz.prog 0 S (QR Tryz.prog [(6, none)] (RF16 res)) [] ⟨0, []⟩) :
  ∀ {m : Nat} {a1 : Int} (b5 : m = Int.toNat ((x2.length : Int) - a1)) (a5 : 0 ≤ a1), gy x0 x1 x2 K0 m a1 = res → RC Tryz.prog (.loop ch2) S (QR Tryz.prog [(6, none)] (RF16 res)) [(9, vi a1), (3, .fp v0), (2, v2), (1, vi x1)] ⟨0, []⟩ := by
 have a8 := a2
 try simp only [qa] at a8
 intro m
 induction m with
 | zero =>
  intro a1 b5 a5 hres
  rw [gy] at hres
  refine bq (ae (sR (mV rfl (mV rfl (ab (cd rfl (br r2 Tryz.underlying32 _)) (bN co rfl rfl (nS ?_)))))))
  refine bg rfl ?_ ?_ <;> intro c <;> try simp only [qa] at c
  ·omega
  refine dm (dx (cy ?_))
  exact wP (b6  hres) rfl
 | succ m ih =>
  intro a1 b5 a5 hres
  rw [gy] at hres
  refine bq (ae (sR (mV rfl (mV rfl (ab (cd rfl (br r2 Tryz.underlying32 _)) (bN co rfl rfl (nS ?_)))))))
  refine bg rfl (fun a0 => ?_) (fun a0 => ?_)
  ·have hgo := hres
   have a6 := a0
   try simp only [qa] at a6
   refine az (af (ae (bf (sR (lD r0 rfl rfl rfl (mV rfl (mV rfl (mV rfl ?_))))))))
   obtain ⟨b7, b4, b3⟩ := cx (i := a1) r2 (by first | omega | (have hk := bb (by assumption) (by assumption); omega) | (have hk := tck (by assumption) (by assumption); omega) | (have hk := rtck (by assumption) (by assumption); omega) | (have hk := eck (by assumption) (by assumption) (by assumption); omega) | (have hk := tv (by assumption) (by assumption); omega) | (have hk := rtv (by assumption) (by assumption); omega)) (by first | omega | (have hk := bb (by assumption) (by assumption); omega) | (have hk := tck (by assumption) (by assumption); omega) | (have hk := rtck (by assumption) (by assumption); omega) | (have hk := eck (by assumption) (by assumption) (by assumption); omega) | (have hk := tv (by assumption) (by assumption); omega) | (have hk := rtv (by assumption) (by assumption); omega))
   refine ab (bn rfl rfl b4) (gL (aj.g_Entry b3) rfl rfl rfl fun b8 b1 => ?_)
   obtain ⟨b9, a4, hres⟩ := dc hres
   have a9 := dk0 (x1 := x1) r0 b1 
   rw [a4] at a9
   refine cL a9 rfl rfl (aq (TR.clo aa.t r0) (aq rfl (aq (TR.clo au.t b1) bm))) (mV rfl (nS (ae (sR (mV rfl (bN jk rfl rfl (nS ?_)))))))
   refine cq hres rfl ?_ ?_ <;> clear hres <;> intro a3 hres <;> have a7 := a3 <;> try simp only [qa] at a7
   ·refine sR (mV rfl (mV rfl (nS ?_)))
    exact rR hres rfl rfl rfl
   ·refine az (af (sR (mI rfl (nS (bf ?_)))))
    refine wC (xu r2 b0 a2 a5 a0 a4 a3 ?_  rfl (by omega) hres) rfl
    ·intro  hres
     refine fd (dg (af (ah (mV rfl (bN eg rfl rfl (mV rfl (aw (ct ?_))))))))
     have hbd := du r2
     have hinc : wr (a1 + 1) = a1 + 1 := dw (by omega) (by have hk : x2.length ≤ 9223372036854775807 := r2.2; omega)
     erw [hinc]
     exact wC (ih   (by omega) (by omega) hres) rfl
  ·exfalso
   try simp only [qa] at a0
   omega

theorem ed1 {x0 : aa} {x1 : Int} {x2 : List aj} {v0 v2 : PV} (r0 : aa.t.R x0 v0) (r2 : (tSl aj.t).R x2 v2) : FnR Tryz.prog 16 [v0, vi x1, v2] (vi (nh x0 x1 x2)) := by
 refine fnS (R := RF16) da7 (fun _ h => h) rfl fun res hres => ?_
 unfold nh at hres
 refine sR (ab (dh rfl (TR.cnt aa.t r0)) (mI rfl (nR (lD r0 rfl rfl rfl (mV rfl ?_)))))
 obtain ⟨a4, a1, hres⟩ := dc hres
 have a3 := ay4 (x1 := x1) r0 
 rw [a1] at a3
 refine cL a3 rfl rfl (aq (TR.clo aa.t r0) (aq rfl bm)) (mV rfl (xT rfl rfl (xT rfl rfl (mV rfl (mV rfl (nS (ae (sR ?_))))))))
 refine mV rfl (bN jk rfl rfl (nS ?_))
 refine cq hres rfl ?_ ?_ <;> clear hres <;> intro a0 hres <;> have a2 := a0 <;> try simp only [qa] at a2
 ·refine sR (mV rfl (mV rfl (nS ?_)))
  exact rR hres rfl rfl rfl
 ·refine az (af (ae (sR (mI rfl (nS (bf ?_))))))
  refine wC (yz r0 r2 a1 a0 ?_  rfl (by omega) hres) rfl
  ·intro  hres
   refine fd (af (sR (mI rfl (nS ?_))))
   exact rR hres rfl rfl rfl

def RF109 (res : Bool) (r : PV) : Prop := r = vb res
theorem bd7 {x0 : UInt8} : FnR Tryz.prog 109 [vu8 x0] (vb (jy x0)) := by
 refine fnS (R := RF109) bf8 (fun _ h => h) rfl fun res hres => ?_
 unfold jy at hres
 refine sR (mB rfl (nR (mV rfl (ab (bd (a := vu8 x0) (b := vu8 (97 : UInt8)) rfl rfl ak5) (mV rfl ?_)))))
 refine bv 3 (d := 8) (v := vb ((decide ((97 : UInt8) ≤ x0)) && (decide (x0 ≤ (122 : UInt8))))) ?_ ?_
 ·intro S Q r
  cases a3 : (decide ((97 : UInt8) ≤ x0))
  ·exact gN 2 rfl rfl rfl rfl rfl rfl
  ·intro k
   have a0 := a3
   try simp only [qa] at a0
   refine ai rfl rfl (am rfl) (ai rfl rfl (bd (a := vu8 x0) (b := vu8 (122 : UInt8)) rfl rfl al3) ?_)
   exact gK rfl rfl rfl rfl rfl k
 refine mV rfl ?_
 refine bv 7 (d := 16) (v := vb (((decide ((97 : UInt8) ≤ x0)) && (decide (x0 ≤ (122 : UInt8)))) || ((decide ((65 : UInt8) ≤ x0)) && (decide (x0 ≤ (90 : UInt8)))))) ?_ ?_
 ·intro S Q r
  cases a4 : ((decide ((97 : UInt8) ≤ x0)) && (decide (x0 ≤ (122 : UInt8))))
  ·intro k
   have a2 := a4
   try simp only [qa] at a2
   refine ai rfl rfl (am rfl) (ai rfl rfl (bd (a := vu8 x0) (b := vu8 (65 : UInt8)) rfl rfl ak5) (ai rfl rfl (am rfl) ?_))
   refine bv 3 (d := 15) (v := vb ((decide ((65 : UInt8) ≤ x0)) && (decide (x0 ≤ (90 : UInt8))))) ?_ ?_
   ·intro S Q r
    cases a5 : (decide ((65 : UInt8) ≤ x0))
    ·intro k
     refine mn rfl rfl (mn rfl rfl (ai (v := vb false) rfl rfl (lz rfl rfl rfl rfl) ?_))
     exact wD k rfl
    ·intro k
     have a1 := a5
     try simp only [qa] at a1
     refine ai rfl rfl (am rfl) (ai rfl rfl (bd (a := vu8 x0) (b := vu8 (90 : UInt8)) rfl rfl al3) (ai (v := vb (decide (x0 ≤ (90 : UInt8)))) rfl rfl (lz rfl rfl rfl rfl) ?_))
     exact wD k rfl
   exact gK rfl rfl rfl rfl rfl k
  ·exact gN 6 rfl rfl rfl rfl rfl rfl
 refine mV rfl (nS ?_)
 exact rR hres rfl rfl rfl

def RF110 (res : Int) (r : PV) : Prop := r = vi res
theorem wn {S : List Fr} {res : Int} {x0 : List UInt8} {x1 : UInt8 → Bool} {v1 : PV} (r1 : (tFn Tryz.prog tU8 tB).R x1 v1) (hs : x0.length ≤ 1000) {K0 : Int → Int}
  (b0 : ∀ {a0 : Int}, K0 a0 = res → PX Tryz.prog 0 S (QR Tryz.prog [(4, none)] (RF110 res)) [(5, vi a0)] ⟨0, []⟩) :
  ∀ {m : Nat} {a0 : Int} (b1 : m = Int.toNat ((x0.length : Int) - a0)) (a5 : 0 ≤ a0), kg x0 x1 K0 m a0 = res → RC Tryz.prog (.loop bx9) S (QR Tryz.prog [(4, none)] (RF110 res)) [(5, vi a0), (1, v1), (0, vs x0)] ⟨0, []⟩ := by
 intro m
 induction m with
 | zero =>
  intro a0 b1 a5 hres
  rw [kg] at hres
  refine bq (ae (sR (mV rfl (mV rfl (ab (cd rfl (nb Tryz.underlying9)) (bN co rfl rfl (mV rfl ?_)))))))
  refine bv 6 (d := 16) (v := vb ((decide (a0 < (x0.length : Int))) && (x1 (ix x0 a0)))) ?_ ?_
  ·intro S Q r
   cases a6 : (decide (a0 < (x0.length : Int)))
   ·exact gN 5 rfl rfl rfl rfl rfl rfl
   ·intro k
    have a4 := a6
    try simp only [qa] at a4
    refine ai rfl rfl (am rfl) (ai rfl rfl (am rfl) (ai rfl rfl (am rfl) (ai rfl rfl (pj rfl rfl (th Tryz.underlying9 (by first | omega | (have hk := bb (by assumption) (by assumption); omega) | (have hk := tck (by assumption) (by assumption); omega) | (have hk := rtck (by assumption) (by assumption); omega) | (have hk := eck (by assumption) (by assumption) (by assumption); omega) | (have hk := tv (by assumption) (by assumption); omega) | (have hk := rtv (by assumption) (by assumption); omega)) (by first | omega | (have hk := bb (by assumption) (by assumption); omega) | (have hk := tck (by assumption) (by assumption); omega) | (have hk := rtck (by assumption) (by assumption); omega) | (have hk := eck (by assumption) (by assumption) (by assumption); omega) | (have hk := tv (by assumption) (by assumption); omega) | (have hk := rtv (by assumption) (by assumption); omega)))) ?_)))
    refine ak3 rfl rfl rfl r1 rfl (show tU8.R (ix x0 a0) (vu8 (ix x0 a0)) from rfl) (fun a9 a2 => ?_)
    have a2 : a9 = vb (x1 (ix x0 a0)) := a2; subst a2
    exact gK rfl rfl rfl rfl rfl k
  refine nS ?_
  refine bg rfl ?_ ?_ <;> intro c <;> try simp only [qa] at c
  ·omega
  refine dm (dx (cy ?_))
  exact wP (b0  hres) rfl
 | succ m ih =>
  intro a0 b1 a5 hres
  rw [kg] at hres
  refine bq (ae (sR (mV rfl (mV rfl (ab (cd rfl (nb Tryz.underlying9)) (bN co rfl rfl (mV rfl ?_)))))))
  refine bv 6 (d := 16) (v := vb ((decide (a0 < (x0.length : Int))) && (x1 (ix x0 a0)))) ?_ ?_
  ·intro S Q r
   cases a7 : (decide (a0 < (x0.length : Int)))
   ·exact gN 5 rfl rfl rfl rfl rfl rfl
   ·intro k
    have a3 := a7
    try simp only [qa] at a3
    refine ai rfl rfl (am rfl) (ai rfl rfl (am rfl) (ai rfl rfl (am rfl) (ai rfl rfl (pj rfl rfl (th Tryz.underlying9 (by first | omega | (have hk := bb (by assumption) (by assumption); omega) | (have hk := tck (by assumption) (by assumption); omega) | (have hk := rtck (by assumption) (by assumption); omega) | (have hk := eck (by assumption) (by assumption) (by assumption); omega) | (have hk := tv (by assumption) (by assumption); omega) | (have hk := rtv (by assumption) (by assumption); omega)) (by first | omega | (have hk := bb (by assumption) (by assumption); omega) | (have hk := tck (by assumption) (by assumption); omega) | (have hk := rtck (by assumption) (by assumption); omega) | (have hk := eck (by assumption) (by assumption) (by assumption); omega) | (have hk := tv (by assumption) (by assumption); omega) | (have hk := rtv (by assumption) (by assumption); omega)))) ?_)))
    refine ak3 rfl rfl rfl r1 rfl (show tU8.R (ix x0 a0) (vu8 (ix x0 a0)) from rfl) (fun a8 a1 => ?_)
    have a1 : a8 = vb (x1 (ix x0 a0)) := a1; subst a1
    exact gK rfl rfl rfl rfl rfl k
  refine nS ?_
  refine cq hres rfl ?_ ?_ <;> clear hres <;> intro c hres <;> try simp only [qa] at c
  ·refine az (af (bf (ah (mV rfl (bN eg rfl rfl (mV rfl (aw (dg ?_))))))))
   refine ct ?_
   have hinc : wr (a0 + 1) = a0 + 1 := dw (by omega) (by omega)
   erw [hinc]
   exact wC (ih   (by omega) (by omega) hres) rfl
  ·refine dm (dx (cy ?_))
   exact wP (b0  hres) rfl

theorem cq5 {x0 : List UInt8} {x1 : UInt8 → Bool} {v1 : PV} (r1 : (tFn Tryz.prog tU8 tB).R x1 v1) (hs : x0.length ≤ 1000) : FnR Tryz.prog 110 [vs x0, v1] (vi (qc x0 x1)) := by
 refine fnS (R := RF110) bd0 (fun _ h => h) rfl fun res hres => ?_
 unfold qc at hres
 refine sR (mI rfl (nR (mI rfl (nS (ae (bf ?_))))))
 refine wC (wn r1 hs ?_  rfl (by omega) hres) rfl
 ·intro a0 hres
  refine fd (af (sR (mV rfl (mV rfl (nS ?_)))))
  exact rR hres rfl rfl rfl

def RF112 (res : Bool) (r : PV) : Prop := r = vb res
theorem ch9 {x0 : UInt8} : FnR Tryz.prog 112 [vu8 x0] (vb (ki x0)) := by
 refine fnS (R := RF112) bf4 (fun _ h => h) rfl fun res hres => ?_
 unfold ki at hres
 refine sR (mB rfl (nR (mV rfl (ab (bd (a := vu8 x0) (b := vu8 (48 : UInt8)) rfl rfl ak5) (mV rfl ?_)))))
 refine bv 3 (d := 8) (v := vb ((decide ((48 : UInt8) ≤ x0)) && (decide (x0 ≤ (57 : UInt8))))) ?_ ?_
 ·intro S Q r
  cases a1 : (decide ((48 : UInt8) ≤ x0))
  ·exact gN 2 rfl rfl rfl rfl rfl rfl
  ·intro k
   have a0 := a1
   try simp only [qa] at a0
   refine ai rfl rfl (am rfl) (ai rfl rfl (bd (a := vu8 x0) (b := vu8 (57 : UInt8)) rfl rfl al3) ?_)
   exact gK rfl rfl rfl rfl rfl k
 refine mV rfl (nS ?_)
 exact rR hres rfl rfl rfl

def RF111 (res : Bool) (r : PV) : Prop := r = vb res
theorem cg0 {x0 : UInt8} : FnR Tryz.prog 111 [vu8 x0] (vb (jb x0)) := by
 refine fnS (R := RF111) bi2 (fun _ h => h) rfl fun res hres => ?_
 unfold jb at hres
 refine sR (mB rfl (nR (mV rfl ?_)))
 obtain ⟨a0, a3, hres⟩ := dc hres
 have a4 := bd7 (x0 := x0)  
 rw [a3] at a4
 refine cL a4 rfl rfl (aq rfl bm) (mV rfl ?_)
 refine bv 3 (d := 8) (v := vb (a0 || (ki x0))) ?_ ?_
 ·intro S Q r
  cases a5 : a0
  ·intro k
   have a2 := a5
   try simp only [qa] at a2
   refine ai rfl rfl (am rfl) ?_
   have a7 := ch9 (x0 := x0)  
   refine fu rfl rfl (mb rfl rfl (aq rfl bm) a7) ?_
   exact gK rfl rfl rfl rfl rfl k
  ·exact gN 2 rfl rfl rfl rfl rfl rfl
 refine mV rfl ?_
 refine bv 3 (d := 12) (v := vb ((a0 || (ki x0)) || (decide (x0 = (95 : UInt8))))) ?_ ?_
 ·intro S Q r
  cases a6 : (a0 || (ki x0))
  ·intro k
   have a1 := a6
   try simp only [qa] at a1
   refine ai rfl rfl (am rfl) (ai rfl rfl (bd (a := vu8 x0) (b := vu8 (95 : UInt8)) rfl rfl do2) ?_)
   exact gK rfl rfl rfl rfl rfl k
  ·exact gN 2 rfl rfl rfl rfl rfl rfl
 refine mV rfl (nS ?_)
 exact rR hres rfl rfl rfl

theorem dg1 : (tFn Tryz.prog tU8 tB).R jb (.fn (.func 111) [] []) := cy6 fun a va ra => by obtain rfl := ra; exact ⟨_, cg0, rfl⟩

def RF73 (res : Bool) (r : PV) : Prop := r = vb res
theorem dj1 {x0 : List UInt8} : FnR Tryz.prog 73 [vs x0] (vb (ld x0)) := by
 refine fnS (R := RF73) bp5 (fun _ h => h) rfl fun res hres => ?_
 unfold ld at hres
 refine sR (mB rfl (nS (ae (sR (mV rfl (ab (cd rfl (nb Tryz.underlying9)) (bN lh rfl rfl (mV rfl ?_))))))))
 refine bv 4 (d := 10) (v := vb ((decide ((x0.length : Int) = 0)) || (decide (16 < (x0.length : Int))))) ?_ ?_
 ·intro S Q r
  cases a4 : (decide ((x0.length : Int) = 0))
  ·intro k
   have a1 := a4
   try simp only [qa] at a1
   refine ai rfl rfl (am rfl) (ai rfl rfl (cd rfl (nb Tryz.underlying9)) (ai rfl rfl (bd rfl rfl gi) ?_))
   exact gK rfl rfl rfl rfl rfl k
  ·exact gN 3 rfl rfl rfl rfl rfl rfl
 refine mV rfl ?_
 refine bv 5 (d := 16) (v := vb (((decide ((x0.length : Int) = 0)) || (decide (16 < (x0.length : Int)))) || (!(jy (ix x0 0))))) ?_ ?_
 ·intro S Q r
  cases a2 : ((decide ((x0.length : Int) = 0)) || (decide (16 < (x0.length : Int))))
  ·intro k
   have a0 := a2
   try simp only [qa] at a0
   refine ai rfl rfl (am rfl) (ai rfl rfl (pj rfl rfl (th (i := 0) Tryz.underlying9 (by first | omega | (have hk := bb (by assumption) (by assumption); omega) | (have hk := tck (by assumption) (by assumption); omega) | (have hk := rtck (by assumption) (by assumption); omega) | (have hk := eck (by assumption) (by assumption) (by assumption); omega) | (have hk := tv (by assumption) (by assumption); omega) | (have hk := rtv (by assumption) (by assumption); omega)) (by first | omega | (have hk := bb (by assumption) (by assumption); omega) | (have hk := tck (by assumption) (by assumption); omega) | (have hk := rtck (by assumption) (by assumption); omega) | (have hk := eck (by assumption) (by assumption) (by assumption); omega) | (have hk := tv (by assumption) (by assumption); omega) | (have hk := rtv (by assumption) (by assumption); omega)))) ?_)
   have a6 := bd7 (x0 := (ix x0 0))  
   refine fu rfl rfl (mb rfl rfl (aq rfl bm) a6) (ai rfl rfl (gc rfl) ?_)
   exact gK rfl rfl rfl rfl rfl k
  ·exact gN 4 rfl rfl rfl rfl rfl rfl
 refine nS ?_
 refine cq hres rfl ?_ ?_ <;> clear hres <;> intro c hres <;> try simp only [qa] at c
 ·refine sR (mB rfl (nS ?_))
  exact rR hres rfl rfl rfl
 ·refine az (af (sR (mV rfl ?_)))
  obtain ⟨a7, a3, hres⟩ := dc hres
  have a5 := cq5 (x0 := x0) dg1 (by first | assumption | omega | (have := rv (by assumption) (by assumption); omega) | (rw [dw (by omega) (by omega)]; omega))
  rw [a3] at a5
  refine cL a5 rfl rfl (aq rfl (aq rfl bm)) (mV rfl (ab (cd rfl (nb Tryz.underlying9)) (bN lh rfl rfl (mV rfl (nS ?_)))))
  exact rR hres rfl rfl rfl

def RF144 (res : cj) (r : PV) : Prop := cj.t.R res r
theorem cp0 {x0 : List cj} {x1 : Int} {v0 : PV} (r0 : (tSl cj.t).R x0 v0) : ∃ r, FnR Tryz.prog 144 [v0, vi x1] r ∧ cj.t.R (gn x0 x1) r := by
 refine fnT (R := RF144) bd9 rfl fun res hres => ?_
 unfold gn at hres
 refine sR ?_
 refine dt (x := .agg [vs [], nilS]) (Mem.nil ⟨0, []⟩) rfl rfl (fun a7 a4 b2 a6 => ?_)
 refine nR (ab (zt (x := .agg [vs [], nilS]) rfl rfl) (nS (ae (sR (mV rfl (bN co rfl rfl (mV rfl ?_)))))))
 refine bv 5 (d := 13) (v := vb ((decide (x1 < 0)) || (decide ((x0.length : Int) ≤ x1)))) ?_ ?_
 ·intro S Q r
  cases a8 : (decide (x1 < 0))
  ·intro k
   have a2 := a8
   try simp only [qa] at a2
   refine ai rfl rfl (am rfl) (ai rfl rfl (am rfl) (ai rfl rfl (cd rfl (br r0 Tryz.underlying22 _)) (ai rfl rfl (bd rfl rfl oa) ?_)))
   exact gK rfl rfl rfl rfl rfl k
  ·exact gN 4 rfl rfl rfl rfl rfl rfl
 refine nS ?_
 refine cq hres rfl ?_ ?_ <;> clear hres <;> intro c hres <;> try simp only [qa] at c
 ·refine sR (lR rfl rfl rfl ?_)
  refine de (k := 0) (v := .agg [vs [], nilS]) a6 rfl rfl rfl rfl (fun b0 a1 => ?_)
  replace a1 : Mem b0 [⟨.op a7 a4 0, 116, 2, [.agg [vs [], nilS]]⟩] := a1
  refine nS ?_
  subst hres
  exact fg (.cell rfl (gh (k := 0) a1 rfl rfl) .nil) (cm (TR.clo cj.t (show cj.t.R ({ Name := ([] : List UInt8), Fields := ([] : List bw) } : cj) (.agg [vs [], nilS]) from ⟨nilS, rfl, ib⟩))) (show cj.t.R ({ Name := ([] : List UInt8), Fields := ([] : List bw) } : cj) (.agg [vs [], nilS]) from ⟨nilS, rfl, ib⟩)
 ·refine az (af (sR (mV rfl (mV rfl ?_))))
  obtain ⟨a5, a9, a0⟩ := cx (i := x1) r0 (by first | omega | (have hk := bb (by assumption) (by assumption); omega) | (have hk := tck (by assumption) (by assumption); omega) | (have hk := rtck (by assumption) (by assumption); omega) | (have hk := eck (by assumption) (by assumption) (by assumption); omega) | (have hk := tv (by assumption) (by assumption); omega) | (have hk := rtv (by assumption) (by assumption); omega)) (by first | omega | (have hk := bb (by assumption) (by assumption); omega) | (have hk := tck (by assumption) (by assumption); omega) | (have hk := rtck (by assumption) (by assumption); omega) | (have hk := eck (by assumption) (by assumption) (by assumption); omega) | (have hk := tv (by assumption) (by assumption); omega) | (have hk := rtv (by assumption) (by assumption); omega))
  refine ab (bn rfl rfl a9) (lD a0 rfl rfl rfl ?_)
  refine de (k := 0) (v := a5) a6 rfl rfl rfl (TR.cnt cj.t a0) (fun b1 a3 => ?_)
  replace a3 : Mem b1 [⟨.op a7 a4 0, 116, 2, [a5]⟩] := a3
  refine nS ?_
  subst hres
  exact fg (.cell rfl (gh (k := 0) a3 rfl (TR.agg cj.t a0)) .nil) (cm (TR.clo cj.t a0)) a0

def RF115 (res : (List bw)) (r : PV) : Prop := (tSl bw.t).R res r
theorem cg7 {x0 : aa} {x1 : Int} {v0 : PV} (r0 : aa.t.R x0 v0) : ∃ r, FnR Tryz.prog 115 [v0, vi x1] r ∧ (tSl bw.t).R (tp x0 x1) r := by
 refine fnT (R := RF115) bh6 rfl fun res hres => ?_
 unfold tp at hres
 refine sR (ab (dh rfl (TR.cnt aa.t r0)) (ab (v := nilS) (am rfl) (nS (ae (sR (mV rfl (bN (lh (b := -1)) rfl rfl (nS ?_))))))))
 refine cq hres rfl ?_ ?_ <;> clear hres <;> intro c hres <;> try simp only [qa] at c
 ·refine sR (gL (aa.g_Metadata r0) rfl rfl rfl fun b0 a2 => (mV rfl (nS ?_)))
  exact rR hres rfl (TR.clo (tSl bw.t) a2) a2
 ·refine az (af (sR (gL (aa.g_Headers r0) rfl rfl rfl fun b1 a0 => (mV rfl ?_))))
  obtain ⟨a9, a4, hres⟩ := dc hres
  obtain ⟨a7, a6, a1⟩ := cp0 (x1 := x1) a0 
  rw [a4] at a1
  refine cL a6 rfl rfl (aq (TR.clo (tSl cj.t) a0) (aq rfl bm)) ?_
  obtain ⟨a8, a5, a3⟩ := cj.g_Fields a1
  refine ab (av4 rfl a5) (mV rfl (nS ?_))
  exact rR hres rfl (TR.clo (tSl bw.t) a3) a3

def RF114 (res : bw) (r : PV) : Prop := bw.t.R res r
theorem ci6 {x0 : List bw} {x1 : Int} {v0 : PV} (r0 : (tSl bw.t).R x0 v0) : ∃ r, FnR Tryz.prog 114 [v0, vi x1] r ∧ bw.t.R (kp x0 x1) r := by
 refine fnT (R := RF114) bj1 rfl fun res hres => ?_
 unfold kp at hres
 refine sR ?_
 refine dt (x := .agg [vs [], vi 0]) (Mem.nil ⟨0, []⟩) rfl rfl (fun a7 a4 b2 a6 => ?_)
 refine nR (ab (zt (x := .agg [vs [], vi 0]) rfl rfl) (nS (ae (sR (mV rfl (bN co rfl rfl (mV rfl ?_)))))))
 refine bv 5 (d := 13) (v := vb ((decide (x1 < 0)) || (decide ((x0.length : Int) ≤ x1)))) ?_ ?_
 ·intro S Q r
  cases a8 : (decide (x1 < 0))
  ·intro k
   have a2 := a8
   try simp only [qa] at a2
   refine ai rfl rfl (am rfl) (ai rfl rfl (am rfl) (ai rfl rfl (cd rfl (br r0 Tryz.underlying23 _)) (ai rfl rfl (bd rfl rfl oa) ?_)))
   exact gK rfl rfl rfl rfl rfl k
  ·exact gN 4 rfl rfl rfl rfl rfl rfl
 refine nS ?_
 refine cq hres rfl ?_ ?_ <;> clear hres <;> intro c hres <;> try simp only [qa] at c
 ·refine sR (lR rfl rfl rfl ?_)
  refine de (k := 0) (v := .agg [vs [], vi 0]) a6 rfl rfl rfl rfl (fun b0 a1 => ?_)
  replace a1 : Mem b0 [⟨.op a7 a4 0, 162, 2, [.agg [vs [], vi 0]]⟩] := a1
  refine nS ?_
  subst hres
  exact fg (.cell rfl (gh (k := 0) a1 rfl rfl) .nil) (cm (TR.clo bw.t (show bw.t.R ({ Name := ([] : List UInt8), Width := 0 } : bw) (.agg [vs [], vi 0]) from rfl))) (show bw.t.R ({ Name := ([] : List UInt8), Width := 0 } : bw) (.agg [vs [], vi 0]) from rfl)
 ·refine az (af (sR (mV rfl (mV rfl ?_))))
  obtain ⟨a5, a9, a0⟩ := cx (i := x1) r0 (by first | omega | (have hk := bb (by assumption) (by assumption); omega) | (have hk := tck (by assumption) (by assumption); omega) | (have hk := rtck (by assumption) (by assumption); omega) | (have hk := eck (by assumption) (by assumption) (by assumption); omega) | (have hk := tv (by assumption) (by assumption); omega) | (have hk := rtv (by assumption) (by assumption); omega)) (by first | omega | (have hk := bb (by assumption) (by assumption); omega) | (have hk := tck (by assumption) (by assumption); omega) | (have hk := rtck (by assumption) (by assumption); omega) | (have hk := eck (by assumption) (by assumption) (by assumption); omega) | (have hk := tv (by assumption) (by assumption); omega) | (have hk := rtv (by assumption) (by assumption); omega))
  refine ab (bn rfl rfl a9) (lD a0 rfl rfl rfl ?_)
  refine de (k := 0) (v := a5) a6 rfl rfl rfl (TR.cnt bw.t a0) (fun b1 a3 => ?_)
  replace a3 : Mem b1 [⟨.op a7 a4 0, 162, 2, [a5]⟩] := a3
  refine nS ?_
  subst hres
  exact fg (.cell rfl (gh (k := 0) a3 rfl (TR.agg bw.t a0)) .nil) (cm (TR.clo bw.t a0)) a0

end Go.Proofs.YthdnpgpnodgicaaGreat
