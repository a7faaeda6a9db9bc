/-
 The code of each function does what its plain program says.
-/
import Derived.Test.YtmonnlkagniolaaGreatL6W0
set_option linter.unusedVariables false
set_option linter.unusedSimpArgs false
set_option maxRecDepth 100000
namespace Go.Proofs.YtmonnlkagniolaaGreat
open Go Go.Pb Go.RowKit
def RF267 (n : Int) (r : PV) : Prop := r = vi n
theorem ac8 {x0 : Int} : FnR Tryz.prog 267 [vi x0] (vi (dh x0)) := by
 refine fnS (R := RF267) av5 (fun _ h => h) rfl fun n z => ?_
 unfold dh at z
 refine sR (mI rfl (nS (aq (sR (mV rfl (nS (bh (aq ?_))))))))
 refine sR (bN dc rfl rfl (mV rfl (nS ?_)))
 obtain ⟨a8, a4, z⟩ := bq z
 refine jw (F := fun b S Q => ∀ (a1 : Bool), a8 a1 = n → RC Tryz.prog b S Q [(4, vb a1), (3, vi x0)] ⟨0, []⟩) ?_ ?_
 ·intro a1  z
  rw [← a4] at z
  refine bm z rfl ?_ ?_ <;> clear z <;> intro c z <;> try simp only [qa] at c
  ·refine sR (mI rfl (nS ?_))
   exact rR z rfl rfl rfl
  ·refine aq (sR (bN dc rfl rfl (mV rfl (nS ?_))))
   obtain ⟨a7, a3, z⟩ := bq z
   refine jw (F := fun b S Q => ∀ (a2 : Bool), a7 a2 = n → RC Tryz.prog b S Q [(9, vb a2), (3, vi x0)] ⟨0, []⟩) ?_ ?_
   ·intro a2  z
    rw [← a3] at z
    refine bm z rfl ?_ ?_ <;> clear z <;> intro c z <;> try simp only [qa] at c
    ·refine sR (mI rfl (nS ?_))
     exact rR z rfl rfl rfl
    ·refine aq (sR (bN dc rfl rfl (mV rfl (nS ?_))))
     obtain ⟨a6, a5, z⟩ := bq z
     refine jw (F := fun b S Q => ∀ (a0 : Bool), a6 a0 = n → RC Tryz.prog b S Q [(14, vb a0), (3, vi x0)] ⟨0, []⟩) ?_ ?_
     ·intro a0  z
      rw [← a5] at z
      refine bm z rfl ?_ ?_ <;> clear z <;> intro c z <;> try simp only [qa] at c
      ·refine sR (mI rfl (nS ?_))
       exact rR z rfl rfl rfl
      ·refine sR (bN dc rfl rfl (mV rfl (nS ?_)))
       refine bm z rfl ?_ ?_ <;> clear z <;> intro c z <;> try simp only [qa] at c
       ·refine sR (mI rfl (nS ?_))
        exact rR z rfl rfl rfl
       ·refine ax (cp (am (sR (mI rfl (nS ?_)))))
        exact rR z rfl rfl rfl
     ·intro J
      refine bm z rfl ?_ ?_ <;> clear z <;> intro c z <;> try simp only [qa] at c
      ·refine ax ?_
       refine am (wC (J _  z) rfl)
      ·refine sR (bN dc rfl rfl (mV rfl (nS ?_)))
       refine bm z rfl ?_ ?_ <;> clear z <;> intro c z <;> try simp only [qa] at c
       ·refine ax ?_
        refine am (wC (J _  z) rfl)
       ·refine sR (bN dc rfl rfl (mV rfl (nS ?_)))
        refine bm z rfl ?_ ?_ <;> clear z <;> intro c z <;> try simp only [qa] at c
        ·refine ax ?_
         refine am (wC (J _  z) rfl)
        ·refine sR (bN dc rfl rfl (mV rfl (nS ?_)))
         refine bm z rfl ?_ ?_ <;> clear z <;> intro c z <;> try simp only [qa] at c
         ·refine ax ?_
          refine am (wC (J _  z) rfl)
         ·refine sR (bN dc rfl rfl (mV rfl (nS ?_)))
          refine bm z rfl ?_ ?_ <;> clear z <;> intro c z <;> try simp only [qa] at c
          ·refine ax ?_
           refine am (wC (J _  z) rfl)
          ·refine sR (bN dc rfl rfl (mV rfl (nS ?_)))
           refine bm z rfl ?_ ?_ <;> clear z <;> intro c z <;> try simp only [qa] at c
           ·refine ax ?_
            refine am (wC (J _  z) rfl)
           ·refine sR (bN dc rfl rfl (mV rfl (nS ?_)))
            refine bm z rfl ?_ ?_ <;> clear z <;> intro c z <;> try simp only [qa] at c
            ·refine ax ?_
             refine am (wC (J _  z) rfl)
            ·refine aw (bN dc rfl rfl (mV rfl (bp ?_)))
             refine am (wC (J _  z) rfl)
   ·intro J
    refine bm z rfl ?_ ?_ <;> clear z <;> intro c z <;> try simp only [qa] at c
    ·refine ax ?_
     refine am (wC (J _  z) rfl)
    ·refine sR (bN dc rfl rfl (mV rfl (nS ?_)))
     refine bm z rfl ?_ ?_ <;> clear z <;> intro c z <;> try simp only [qa] at c
     ·refine ax ?_
      refine am (wC (J _  z) rfl)
     ·refine sR (bN dc rfl rfl (mV rfl (nS ?_)))
      refine bm z rfl ?_ ?_ <;> clear z <;> intro c z <;> try simp only [qa] at c
      ·refine ax ?_
       refine am (wC (J _  z) rfl)
      ·refine aw (bN dc rfl rfl (mV rfl (bp ?_)))
       refine am (wC (J _  z) rfl)
 ·intro J
  refine bm z rfl ?_ ?_ <;> clear z <;> intro c z <;> try simp only [qa] at c
  ·refine ax ?_
   refine am (wC (J _  z) rfl)
  ·refine sR (bN dc rfl rfl (mV rfl (nS ?_)))
   refine bm z rfl ?_ ?_ <;> clear z <;> intro c z <;> try simp only [qa] at c
   ·refine ax ?_
    refine am (wC (J _  z) rfl)
   ·refine sR (bN dc rfl rfl (mV rfl (nS ?_)))
    refine bm z rfl ?_ ?_ <;> clear z <;> intro c z <;> try simp only [qa] at c
    ·refine ax ?_
     refine am (wC (J _  z) rfl)
    ·refine aw (bN dc rfl rfl (mV rfl (bp ?_)))
     refine am (wC (J _  z) rfl)

def RF287 (n : Int × Int) (r : PV) : Prop := r = .tup [vi n.1, vi n.2]
theorem vf {x0 : Int} : FnR Tryz.prog 287 [vi x0] (.tup [vi ((lc x0).1), vi ((lc x0).2)]) := by
 refine fnS (R := RF287) as0 (fun _ h => h) rfl fun n z => ?_
 unfold lc at z
 refine sR (mI rfl (mI rfl (nS (aq (sR (mV rfl (bN cn rfl rfl (mV rfl ?_))))))))
 refine bw 3 (d := 9) (v := vb ((decide (x0 < 1)) || (decide (32 < x0)))) ?_ ?_
 ·intro S Q r
  cases a1 : (decide (x0 < 1))
  ·intro k
   have a0 := a1
   try simp only [qa] at a0
   refine ai rfl rfl (av rfl) (ai rfl rfl (bv rfl rfl ke) ?_)
   exact gK rfl rfl rfl rfl rfl k
  ·exact gN 2 rfl rfl rfl rfl rfl rfl
 refine nS ?_
 refine bm z rfl ?_ ?_ <;> clear z <;> intro c z <;> try simp only [qa] at c
 ·refine sR (mI rfl (mI rfl (nS ?_)))
  exact rT z rfl rfl rfl rfl rfl
 ·refine ax (am (sR (mV rfl (mV rfl (mI rfl (nS ?_))))))
  exact rT z rfl rfl rfl rfl rfl

def RF181 (n : Bool) (r : PV) : Prop := r = vb n
theorem uf {S : List Fr} {n : Bool} {x0 : List Int} {v0 : PV} (r0 : (tSl tI).R x0 v0) {K0 : Unit → Bool}
  (a5 : K0 () = n → PX Tryz.prog 0 S (QR Tryz.prog [(2, none)] (RF181 n)) [] ⟨0, []⟩) :
  ∀ {m : Nat} {a0 : Int} (a4 : m = Int.toNat ((x0.length : Int) - a0)) (a3 : 0 ≤ a0), jz x0 K0 m a0 = n → RC Tryz.prog (.loop bi6) S (QR Tryz.prog [(2, none)] (RF181 n)) [(7, vi a0), (6, vi (x0.length : Int)), (5, v0)] ⟨0, []⟩ := by
 intro m
 induction m with
 | zero =>
  intro a0 a4 a3 z
  rw [jz] at z
  refine cj (sR (bN cn rfl rfl (nS (aq ?_))))
  refine cb rfl ?_ ?_ <;> intro c <;> try simp only [qa] at c
  ·omega
  refine dw (fj (dl ?_))
  exact wP (a5  z) rfl
 | succ m ih =>
  intro a0 a4 a3 z
  rw [jz] at z
  refine cj (sR (bN cn rfl rfl (nS (aq ?_))))
  refine cb rfl ?_ ?_ <;> intro c <;> try simp only [qa] at c
  rotate_left
  ·omega
  refine ax (am (aq (bh (sR (ae (bf rfl rfl (slI r0 (by omega) (by omega))) (lR rfl rfl rfl (mV rfl (nR ?_))))))))
  refine mV rfl (bN cn rfl rfl (mV rfl ?_))
  refine bw 3 (d := 16) (v := vb ((decide ((ix x0 a0) < 1)) || (decide (32 < (ix x0 a0))))) ?_ ?_
  ·intro S Q r
   cases a2 : (decide ((ix x0 a0) < 1))
   ·intro k
    have a1 := a2
    try simp only [qa] at a1
    refine ai rfl rfl (av rfl) (ai rfl rfl (bv rfl rfl ke) ?_)
    exact gK rfl rfl rfl rfl rfl k
   ·exact gN 2 rfl rfl rfl rfl rfl rfl
  refine nS ?_
  refine bm z rfl ?_ ?_ <;> clear z <;> intro c z <;> try simp only [qa] at c
  ·refine sR (mB rfl (nS ?_))
   exact rR z rfl rfl rfl
  ·refine ax (cp (am (aw (bN em rfl rfl (mV rfl (bp (cq ?_)))))))
   have s := db r0
   have o : wr (a0 + 1) = a0 + 1 := de (by omega) (by omega)
   erw [o]
   exact wC (ih   (by omega) (by omega) z) rfl

theorem at6 {x0 : List Int} {v0 : PV} (r0 : (tSl tI).R x0 v0) : FnR Tryz.prog 181 [v0] (vb (li x0)) := by
 refine fnS (R := RF181) ax2 (fun _ h => h) rfl fun n z => ?_
 unfold li at z
 refine sR (mB rfl (nS (aq (sR (mV rfl (ae (cv rfl (cm r0 Tryz.underlying29 _)) (mI rfl (nS ?_))))))))
 refine bh ?_
 refine wC (uf r0 ?_  rfl (by omega) z) rfl
 ·intro  z
  refine fx (am (sR (mB rfl (nS ?_))))
  exact rR z rfl rfl rfl

def RF182 (n : (BitVec 32)) (r : PV) : Prop := r = nk n
theorem as5 {x0 : Int} : FnR Tryz.prog 182 [vi x0] (nk (gv x0)) := by
 refine fnS (R := RF182) ax9 (fun _ h => h) rfl fun n z => ?_
 unfold gv at z
 refine sR (ae (v := nk 0#32) (av rfl) (nS (aq (sR (mV rfl (ae (v := .fs true [vi x0]) (fd rfl (all_cons rfl iu)) ?_))))))
 have a2 : (tSl tI).R ([x0] : List Int) (.fs true [vi x0]) := mg ⟨rfl, trivial⟩ (by simp)
 obtain ⟨a3, a0, z⟩ := bq z
 have a1 := at6  a2 
 rw [a0] at a1
 refine cL a1 rfl rfl (ak (TR.clo (tSl tI) a2) bc) (ae (jp rfl) (nS ?_))
 refine bm z rfl ?_ ?_ <;> clear z <;> intro c z <;> try simp only [qa] at c
 ·refine sR (ae (v := nk 0#32) (av rfl) (nS ?_))
  exact rR z rfl rfl rfl
 ·refine ax (am (sR (mV rfl (bN yy rfl rfl (ae (bv (a := nk 4294967295#32) (b := vi (wr (32 - x0))) rfl rfl (de3 (by first | omega | exact bz5 (by assumption) (by assumption)))) (mV rfl (nS ?_)))))))
  exact rR z rfl rfl rfl

def RF288 (n : ay × Bool) (r : PV) : Prop := ∃ c0, r = .tup [c0, vb n.2] ∧ ay.t.R n.1 c0
theorem cb1 {x0 : au} {x1 x2 : Int} {v0 : PV} (r0 : au.t.R x0 v0) : ∃ c0, FnR Tryz.prog 288 [v0, vi x1, vi x2] (.tup [c0, vb ((jo x0 x1 x2).2)]) ∧ ay.t.R (jo x0 x1 x2).1 c0 := by
 obtain ⟨n, z⟩ : ∃ n, jo x0 x1 x2 = n := ⟨_, rfl⟩
 suffices H : RC Tryz.prog ci7 [] (QR Tryz.prog [(6, some (2, true)), (7, none)] (RF288 n)) (argE 0 [v0, vi x1, vi x2]) ⟨0, []⟩ by
  rw [z]
  obtain ⟨r, h1, c0, rfl, e6⟩ := fnE aw9 (by simp) H
  exact ⟨c0, h1, e6⟩
 unfold jo at z
 refine sR (ae (ej rfl (TR.cnt au.t r0)) ?_)
 refine gh (x := .agg [vs [], vi 0]) (Mem.nil ⟨0, []⟩) rfl rfl (fun a3 a4 e0 b4 => ?_)
 refine mB rfl (nR ?_)
 obtain ⟨e4, c9, d0⟩ := au.g_Program r0
 refine fA rfl c9 (gL (af.g_Metadata d0) rfl rfl rfl fun e3 b9 => (mV rfl (nS (aq (sR (mV rfl (bN (ig (b := -1)) rfl rfl (nS ?_))))))))
 obtain ⟨c3, b6, z⟩ := bq z
 refine jw (F := fun b S Q => ∀ (a0 : List ay) (a1 : PV) (a2 : (tSl ay.t).R a0 a1) (a5 : Heap) (a6 : Mem a5 [⟨.op a3 a4 0, 166, 2, [.agg [vs [], vi 0]]⟩]), c3 a0 = n → RC Tryz.prog b S Q [(8, a1), (6, .op a3 a4 0), (2, vi x2)] a5) ?_ ?_
 ·intro a0 a1 a2 a5 a6 z
  rw [← b6] at z
  refine aq (sR (mV rfl (bN cn rfl rfl (mV rfl ?_))))
  refine bw 5 (d := 39) (v := vb ((decide (x2 < 0)) || (decide ((a0.length : Int) ≤ x2)))) ?_ ?_
  ·intro S Q r
   cases b7 : (decide (x2 < 0))
   ·intro k
    have a9 := b7
    try simp only [qa] at a9
    refine ai rfl rfl (av rfl) (ai rfl rfl (av rfl) (ai rfl rfl (cv rfl (cm a2 Tryz.underlying23 _)) (ai rfl rfl (bv rfl rfl lv) ?_)))
    exact gK rfl rfl rfl rfl rfl k
   ·exact gN 4 rfl rfl rfl rfl rfl rfl
  refine nS ?_
  refine bm z rfl ?_ ?_ <;> clear z <;> intro c z <;> try simp only [qa] at c
  ·refine sR (ae (v := .agg [vs [], vi 0]) (me (cs := [vs [], vi 0]) rfl rfl) ?_)
   refine fu (k := 0) (v := .agg [vs [], vi 0]) a6 rfl rfl rfl rfl (fun d5 b0 => ?_)
   replace b0 : Mem d5 [⟨.op a3 a4 0, 166, 2, [.agg [vs [], vi 0]]⟩] := b0
   refine mB rfl (nS ?_)
   subst z
   exact gm (.cell rfl (oh (k := 0) b0 rfl rfl) (.tmp rfl .nil)) (dm (show closed (.tup _) = true from (ak (TR.clo ay.t (show ay.t.R ({ Name := ([] : List UInt8), Width := 0 } : ay) (.agg [vs [], vi 0]) from rfl)) (ak rfl bc)))) ⟨.agg [vs [], vi 0], rfl, rfl⟩
  ·refine ax (am (sR (mV rfl (mV rfl ?_))))
   obtain ⟨b3, c4, a7⟩ := cz (i := x2) a2 (by omega) (by omega)
   refine ae (bf rfl rfl c4) (lD a7 rfl rfl rfl ?_)
   refine fu (k := 0) (v := b3) a6 rfl rfl rfl (TR.cnt ay.t a7) (fun d6 b2 => ?_)
   replace b2 : Mem d6 [⟨.op a3 a4 0, 166, 2, [b3]⟩] := b2
   refine mB rfl (nS ?_)
   subst z
   exact gm (.cell rfl (oh (k := 0) b2 rfl (TR.agg ay.t a7)) (.tmp rfl .nil)) (dm (show closed (.tup _) = true from (ak (TR.clo ay.t a7) (ak rfl bc)))) ⟨b3, rfl, a7⟩
 ·intro J
  refine bm z rfl ?_ ?_ <;> clear z <;> intro c z <;> try simp only [qa] at c
  ·refine aq (sR (mV rfl (bN cn rfl rfl (mV rfl ?_))))
   refine bw 7 (d := 23) (v := vb ((decide (x1 < 0)) || (decide ((x0.Program.Headers.length : Int) ≤ x1)))) ?_ ?_
   ·intro S Q r
    cases b8 : (decide (x1 < 0))
    ·intro k
     have b1 := b8
     try simp only [qa] at b1
     refine ai rfl rfl (av rfl) ?_
     obtain ⟨e2, c1, c8⟩ := au.g_Program r0
     refine ai rfl rfl (cg rfl c1) ?_
     obtain ⟨d7, c6, a8⟩ := af.g_Headers c8
     refine ai rfl rfl (cg rfl c6) (ai rfl rfl (ca rfl (TR.cnt (tSl cy.t) a8) (TR.agg (tSl cy.t) a8)) (ai rfl rfl (cv rfl (cm a8 Tryz.underlying22 _)) (ai rfl rfl (bv rfl rfl lv) ?_)))
     exact gK rfl rfl rfl rfl rfl k
    ·exact gN 6 rfl rfl rfl rfl rfl rfl
   refine nS ?_
   refine bm z rfl ?_ ?_ <;> clear z <;> intro c z <;> try simp only [qa] at c
   ·refine sR (ae (v := .agg [vs [], vi 0]) (me (cs := [vs [], vi 0]) rfl rfl) ?_)
    refine fu (k := 0) (v := .agg [vs [], vi 0]) b4 rfl rfl rfl rfl (fun d2 b5 => ?_)
    replace b5 : Mem d2 [⟨.op a3 a4 0, 166, 2, [.agg [vs [], vi 0]]⟩] := b5
    refine mB rfl (nS ?_)
    subst z
    exact gm (.cell rfl (oh (k := 0) b5 rfl rfl) (.tmp rfl .nil)) (dm (show closed (.tup _) = true from (ak (TR.clo ay.t (show ay.t.R ({ Name := ([] : List UInt8), Width := 0 } : ay) (.agg [vs [], vi 0]) from rfl)) (ak rfl bc)))) ⟨.agg [vs [], vi 0], rfl, rfl⟩
   ·refine ax (am (aw ?_))
    obtain ⟨d9, c2, d3⟩ := au.g_Program r0
    refine fA rfl c2 (gL (af.g_Headers d3) rfl rfl rfl fun e5 d4 => (mV rfl ?_))
    obtain ⟨d8, c5, d1⟩ := cz (i := x1) d4 (by omega) (by omega)
    refine ae (bf rfl rfl c5) (gL (cy.g_Fields d1) rfl rfl rfl fun e1 c7 => (mV rfl (bp ?_)))
    refine am (wC (J _ _ c7 _ (Mem.sub b4 (.cons_cons _ .slnil)) z) rfl)
  ·refine ax ?_
   refine am (wC (J _ _ b9 _ (Mem.sub b4 (.cons_cons _ .slnil)) z) rfl)

def RF268 (n : Int × Int) (r : PV) : Prop := r = .tup [vi n.1, vi n.2]
theorem cc8 {x0 : au} {x1 : ab} {v0 v1 : PV} (r0 : au.t.R x0 v0) (r1 : ab.t.R x1 v1) : FnR Tryz.prog 268 [v0, v1] (.tup [vi ((fm x0 x1).1), vi ((fm x0 x1).2)]) := by
 refine fnS (R := RF268) av2 (fun _ h => h) rfl fun n z => ?_
 unfold fm at z
 refine sR (ae (ej rfl (TR.cnt au.t r0)) (ae (ej rfl (TR.cnt ab.t r1)) (mI rfl (mI rfl (nS (aq (sR (fL rfl (ab.g_Op r1) rfl rfl ?_))))))))
 refine nS (bh (sR (bN dc rfl rfl (mV rfl (nS ?_)))))
 refine bm z rfl ?_ ?_ <;> clear z <;> intro c z <;> try simp only [qa] at c
 ·refine sR (fL rfl (ab.g_W r1) rfl rfl ?_)
  obtain ⟨a0, b8, z⟩ := bq z
  have b1 := vf (x0 := x1.W)  
  rw [b8] at b1
  refine cL b1 rfl rfl (ak rfl bc) (mV rfl (xT rfl rfl (xT rfl rfl (mV rfl (mV rfl (nS (aq (sR ?_))))))))
  refine mV rfl (bN dc rfl rfl (mV rfl ?_))
  refine bw 12 (d := 34) (v := vb ((decide (a0.2 = 0)) && ((decide (x1.N < 0)) || (decide (((gv a0.1).toNat : Int) < x1.N))))) ?_ ?_
  ·intro S Q r
   cases b2 : (decide (a0.2 = 0))
   ·exact gN 11 rfl rfl rfl rfl rfl rfl
   ·intro k
    have a7 := b2
    try simp only [qa] at a7
    refine ai rfl rfl (cg rfl (ab.g_N r1)) (ai rfl rfl (ca rfl rfl rfl) (ai rfl rfl (bv rfl rfl cn) (ai rfl rfl (av rfl) ?_)))
    refine bw 7 (d := 33) (v := vb ((decide (x1.N < 0)) || (decide (((gv a0.1).toNat : Int) < x1.N)))) ?_ ?_
    ·intro S Q r
     cases a9 : (decide (x1.N < 0))
     ·intro k
      have a2 := a9
      try simp only [qa] at a2
      refine ai rfl rfl (cg rfl (ab.g_N r1)) (ai rfl rfl (ca rfl rfl rfl) (ai rfl rfl (av rfl) ?_))
      have c7 := as5 (x0 := a0.1)  
      refine jm rfl rfl (nw rfl rfl (ak rfl bc) c7) (ai rfl rfl (xh (a := nk (gv a0.1)) rfl (c_wi Tryz.underlying89 Tryz.underlying3)) (ai rfl rfl (bv rfl rfl ke) (ai (v := vb (decide (((gv a0.1).toNat : Int) < x1.N))) rfl rfl (mw rfl rfl rfl rfl) ?_)))
      exact wD k rfl
     ·intro k
      refine iv rfl rfl (iv rfl rfl (iv rfl rfl (iv rfl rfl (iv rfl rfl (iv rfl rfl (ai (v := vb true) rfl rfl (mw rfl rfl rfl rfl) ?_))))))
      exact wD k rfl
    exact gK rfl rfl rfl rfl rfl k
  refine nS ?_
  refine bm z rfl ?_ ?_ <;> clear z <;> intro c z <;> try simp only [qa] at c
  ·refine sR (mI rfl (mI rfl (nS ?_)))
   exact rT z rfl rfl rfl rfl rfl
  ·refine ax (am (sR (mV rfl (mV rfl (mV rfl (mV rfl (nS ?_)))))))
   exact rT z rfl rfl rfl rfl rfl
 ·refine sR (bN dc rfl rfl (mV rfl (nS ?_)))
  refine bm z rfl ?_ ?_ <;> clear z <;> intro c z <;> try simp only [qa] at c
  ·refine sR (lD r0 rfl rfl rfl (fL rfl (ab.g_N r1) rfl rfl (fL rfl (ab.g_W r1) rfl rfl ?_)))
   obtain ⟨c2, c0, z⟩ := bq z
   obtain ⟨b9, b3, a8⟩ := cb1 (x1 := x1.N) (x2 := x1.W) r0 
   rw [c0] at b3 a8
   refine cL b3 rfl rfl (ak (TR.clo au.t r0) (ak rfl (ak rfl bc))) (mV rfl (xT rfl rfl (xT rfl rfl ?_)))
   refine gh (x := .agg [vs [], vi 0]) (Mem.nil ⟨0, []⟩) rfl rfl (fun d3 c5 d9 c4 => ?_)
   refine fu (k := 0) (v := b9) c4 rfl rfl rfl (TR.cnt ay.t a8) (fun d1 a5 => ?_)
   replace a5 : Mem d1 [⟨.op d3 c5 0, 166, 2, [b9]⟩] := a5
   refine mV rfl (nS (aq (sR (mV rfl (ae (jp rfl) (nS ?_))))))
   refine bm z rfl ?_ ?_ <;> clear z <;> intro c z <;> try simp only [qa] at c
   ·refine sR (mI rfl (mI rfl (nS ?_)))
    exact rT z rfl rfl rfl rfl rfl
   ·refine ax (am (sR (ae (ba rfl) (ae (br (k := 0) a5 rfl rfl (ay.g_Width a8)) ?_))))
    obtain ⟨d7, b0, z⟩ := bq z
    have b5 := vf (x0 := c2.1.Width)  
    rw [b0] at b5
    refine cL b5 rfl rfl (ak rfl bc) (xT rfl rfl (xT rfl rfl (mV rfl (mV rfl (nS ?_)))))
    exact rT z rfl rfl rfl rfl rfl
  ·refine sR (bN dc rfl rfl (mV rfl (nS ?_)))
   refine bm z rfl ?_ ?_ <;> clear z <;> intro c z <;> try simp only [qa] at c
   ·refine aq (sR (fL rfl (ab.g_N r1) rfl rfl (bN cn rfl rfl (mV rfl ?_))))
    refine bw 7 (d := 67) (v := vb ((decide (x1.N < 0)) || (decide ((x0.Params.length : Int) ≤ x1.N)))) ?_ ?_
    ·intro S Q r
     cases b4 : (decide (x1.N < 0))
     ·intro k
      have a3 := b4
      try simp only [qa] at a3
      refine ai rfl rfl (cg rfl (ab.g_N r1)) (ai rfl rfl (ca rfl rfl rfl) ?_)
      obtain ⟨e0, d2, a4⟩ := au.g_Params r0
      refine ai rfl rfl (cg rfl d2) (ai rfl rfl (ca rfl (TR.cnt (tSl ay.t) a4) (TR.agg (tSl ay.t) a4)) (ai rfl rfl (cv rfl (cm a4 Tryz.underlying23 _)) (ai rfl rfl (bv rfl rfl lv) ?_)))
      exact gK rfl rfl rfl rfl rfl k
     ·exact gN 6 rfl rfl rfl rfl rfl rfl
    refine nS ?_
    refine bm z rfl ?_ ?_ <;> clear z <;> intro c z <;> try simp only [qa] at c
    ·refine sR (mI rfl (mI rfl (nS ?_)))
     exact rT z rfl rfl rfl rfl rfl
    ·refine ax (am (sR (gL (au.g_Params r0) rfl rfl rfl fun e2 d4 => (fL rfl (ab.g_N r1) rfl rfl ?_))))
     obtain ⟨d8, d0, c8⟩ := cz (i := x1.N) d4 (by omega) (by omega)
     refine ae (bf rfl rfl d0) (fL rfl (ay.g_Width c8) rfl rfl ?_)
     obtain ⟨e1, c1, z⟩ := bq z
     have b7 := vf (x0 := (ix x0.Params x1.N).Width)  
     rw [c1] at b7
     refine cL b7 rfl rfl (ak rfl bc) (xT rfl rfl (xT rfl rfl (mV rfl (mV rfl (nS ?_)))))
     exact rT z rfl rfl rfl rfl rfl
   ·refine ax (cp (am (aq (sR (fL rfl (ab.g_N r1) rfl rfl (bN cn rfl rfl (mV rfl ?_)))))))
    refine bw 8 (d := 89) (v := vb ((decide (x1.N < 0)) || (decide ((x0.Program.Headers.length : Int) ≤ x1.N)))) ?_ ?_
    ·intro S Q r
     cases b6 : (decide (x1.N < 0))
     ·intro k
      have a6 := b6
      try simp only [qa] at a6
      refine ai rfl rfl (cg rfl (ab.g_N r1)) (ai rfl rfl (ca rfl rfl rfl) ?_)
      obtain ⟨d6, c3, c9⟩ := au.g_Program r0
      refine ai rfl rfl (cg rfl c3) ?_
      obtain ⟨d5, c6, a1⟩ := af.g_Headers c9
      refine ai rfl rfl (cg rfl c6) (ai rfl rfl (ca rfl (TR.cnt (tSl cy.t) a1) (TR.agg (tSl cy.t) a1)) (ai rfl rfl (cv rfl (cm a1 Tryz.underlying22 _)) (ai rfl rfl (bv rfl rfl lv) ?_)))
      exact gK rfl rfl rfl rfl rfl k
     ·exact gN 7 rfl rfl rfl rfl rfl rfl
    refine nS ?_
    refine bm z rfl ?_ ?_ <;> clear z <;> intro c z <;> try simp only [qa] at c
    ·refine sR (mI rfl (mI rfl (nS ?_)))
     exact rT z rfl rfl rfl rfl rfl
    ·refine ax (am (sR (mI rfl (mI rfl (nS ?_)))))
     exact rT z rfl rfl rfl rfl rfl

def RF269 (n : Int × Int) (r : PV) : Prop := r = .tup [vi n.1, vi n.2]
theorem bx0 {x0 : ab} {x1 : List Int} {v0 v1 : PV} (r0 : ab.t.R x0 v0) (r1 : (tAr 3 tI).R x1 v1) : FnR Tryz.prog 269 [v0, v1] (.tup [vi ((fc x0 x1).1), vi ((fc x0 x1).2)]) := by
 refine fnS (R := RF269) ax1 (fun _ h => h) rfl fun n z => ?_
 unfold fc at z
 refine sR (ae (ej rfl (TR.cnt ab.t r0)) (ae (ej rfl (TR.cnt (tAr 3 tI) r1)) (mI rfl (mI rfl (nS (aq (sR (fL rfl (ab.g_Op r0) rfl rfl ?_))))))))
 refine nS (bh (aq (sR (bN dc rfl rfl (mV rfl (nS ?_))))))
 obtain ⟨f7, c7, z⟩ := bq z
 refine jw (F := fun b S Q => ∀ (a0 : Bool), f7 a0 = n → RC Tryz.prog b S Q [(10, vb a0), (9, vi x0.Op), (3, .fp v1), (2, .fp v0)] ⟨0, []⟩) ?_ ?_
 ·intro a0  z
  rw [← c7] at z
  refine bm z rfl ?_ ?_ <;> clear z <;> intro c z <;> try simp only [qa] at c
  ·refine sR (fL rfl (ab.g_N r0) rfl rfl (bN cn rfl rfl (mV rfl ?_)))
   refine bw 4 (d := 20) (v := vb ((decide (x0.N < 0)) || (decide (31 < x0.N)))) ?_ ?_
   ·intro S Q r
    cases c5 : (decide (x0.N < 0))
    ·intro k
     have a6 := c5
     try simp only [qa] at a6
     refine ai rfl rfl (cg rfl (ab.g_N r0)) (ai rfl rfl (ca rfl rfl rfl) (ai rfl rfl (bv rfl rfl ke) ?_))
     exact gK rfl rfl rfl rfl rfl k
    ·exact gN 3 rfl rfl rfl rfl rfl rfl
   refine nS ?_
   refine bm z rfl ?_ ?_ <;> clear z <;> intro c z <;> try simp only [qa] at c
   ·refine sR (mI rfl (mI rfl (nS ?_)))
    exact rT z rfl rfl rfl rfl rfl
   ·refine ax (cp (am (aq (sR (fL rfl (ab.g_Op r0) rfl rfl ?_)))))
    obtain ⟨d2, d5, z⟩ := bq z
    have d9 := ac8 (x0 := x0.Op)  
    rw [d5] at d9
    refine cL d9 rfl rfl (ak rfl bc) (bN dc rfl rfl (mV rfl ?_))
    refine bw 6 (d := 80) (v := vb ((decide (d2 = 2)) && (!decide ((ix x1 0) = (ix x1 1))))) ?_ ?_
    ·intro S Q r
     cases c6 : (decide (d2 = 2))
     ·exact gN 5 rfl rfl rfl rfl rfl rfl
     ·intro k
      have a8 := c6
      try simp only [qa] at a8
      obtain ⟨e7, f1, a7⟩ := ln (t := tI) r1 (i := 0) (by omega) (by omega)
      have a7 : e7 = vi (ix x1 0) := a7; subst a7
      refine ai rfl rfl (kn rfl rfl f1) (ai rfl rfl (ca rfl rfl rfl) ?_)
      obtain ⟨g5, e6, b9⟩ := ln (t := tI) r1 (i := 1) (by omega) (by omega)
      have b9 : g5 = vi (ix x1 1) := b9; subst b9
      refine ai rfl rfl (kn rfl rfl e6) (ai rfl rfl (ca rfl rfl rfl) (ai rfl rfl (bv rfl rfl ig) ?_))
      exact gK rfl rfl rfl rfl rfl k
    refine nS ?_
    refine bm z rfl ?_ ?_ <;> clear z <;> intro c z <;> try simp only [qa] at c
    ·refine sR (mI rfl (mI rfl (nS ?_)))
     exact rT z rfl rfl rfl rfl rfl
    ·refine ax (am (aq (sR (fL rfl (ab.g_Op r0) rfl rfl (bN dc rfl rfl (mV rfl ?_))))))
     refine bw 4 (d := 88) (v := vb ((decide (x0.Op = 15)) || (decide (x0.Op = 16)))) ?_ ?_
     ·intro S Q r
      cases d0 : (decide (x0.Op = 15))
      ·intro k
       have a3 := d0
       try simp only [qa] at a3
       refine ai rfl rfl (cg rfl (ab.g_Op r0)) (ai rfl rfl (ca rfl rfl rfl) (ai rfl rfl (bv rfl rfl dc) ?_))
       exact gK rfl rfl rfl rfl rfl k
      ·exact gN 3 rfl rfl rfl rfl rfl rfl
     refine nS ?_
     refine bm z rfl ?_ ?_ <;> clear z <;> intro c z <;> try simp only [qa] at c
     ·refine sR (mI rfl (mI rfl (nS ?_)))
      exact rT z rfl rfl rfl rfl rfl
     ·refine ax (am (sR ?_))
      obtain ⟨f0, g1, b4⟩ := ln (t := tI) r1 (i := 0) (by omega) (by omega)
      have b4 : f0 = vi (ix x1 0) := b4; subst b4
      refine ae (kn rfl rfl g1) (lR rfl rfl rfl (mV rfl (mI rfl (nS ?_))))
      exact rT z rfl rfl rfl rfl rfl
  ·refine sR (bN dc rfl rfl (mV rfl (nS ?_)))
   refine bm z rfl ?_ ?_ <;> clear z <;> intro c z <;> try simp only [qa] at c
   ·refine aq (sR (fL rfl (ab.g_N r0) rfl rfl (bN cn rfl rfl (nS ?_))))
    refine bm z rfl ?_ ?_ <;> clear z <;> intro c z <;> try simp only [qa] at c
    ·refine sR (mI rfl (mI rfl (nS ?_)))
     exact rT z rfl rfl rfl rfl rfl
    ·refine ax (am (aq (sR (fL rfl (ab.g_W r0) rfl rfl ?_))))
     obtain ⟨c1, c4, z⟩ := bq z
     have c8 := vf (x0 := x0.W)  
     rw [c4] at c8
     refine cL c8 rfl rfl (ak rfl bc) (mV rfl (xT rfl rfl (xT rfl rfl (mV rfl (mV rfl (nR (mV rfl (bN ig rfl rfl ?_))))))))
     refine mV rfl ?_
     refine bw 9 (d := 43) (v := vb ((!decide (c1.2 = 0)) || (decide ((wr ((ix x1 0) - x0.W)) < x0.N)))) ?_ ?_
     ·intro S Q r
      cases d8 : (!decide (c1.2 = 0))
      ·intro k
       have b7 := d8
       try simp only [qa] at b7
       refine ai rfl rfl (cg rfl (ab.g_N r0)) (ai rfl rfl (ca rfl rfl rfl) ?_)
       obtain ⟨g4, e9, a9⟩ := ln (t := tI) r1 (i := 0) (by omega) (by omega)
       have a9 : g4 = vi (ix x1 0) := a9; subst a9
       refine ai rfl rfl (kn rfl rfl e9) (ai rfl rfl (ca rfl rfl rfl) (ai rfl rfl (cg rfl (ab.g_W r0)) (ai rfl rfl (ca rfl rfl rfl) (ai rfl rfl (bv rfl rfl yy) (ai rfl rfl (bv rfl rfl ke) ?_)))))
       exact gK rfl rfl rfl rfl rfl k
      ·exact gN 8 rfl rfl rfl rfl rfl rfl
     refine nS ?_
     refine bm z rfl ?_ ?_ <;> clear z <;> intro c z <;> try simp only [qa] at c
     ·refine sR (mI rfl (mI rfl (nS ?_)))
      exact rT z rfl rfl rfl rfl rfl
     ·refine ax (am (sR (fL rfl (ab.g_W r0) rfl rfl (mV rfl (mI rfl (nS ?_))))))
      exact rT z rfl rfl rfl rfl rfl
   ·refine sR (bN dc rfl rfl (mV rfl (nS ?_)))
    refine bm z rfl ?_ ?_ <;> clear z <;> intro c z <;> try simp only [qa] at c
    ·refine sR ?_
     obtain ⟨g6, g3, b1⟩ := ln (t := tI) r1 (i := 0) (by omega) (by omega)
     have b1 : g6 = vi (ix x1 0) := b1; subst b1
     refine ae (kn rfl rfl g3) (lR rfl rfl rfl ?_)
     obtain ⟨e2, e8, a2⟩ := ln (t := tI) r1 (i := 1) (by omega) (by omega)
     have a2 : e2 = vi (ix x1 1) := a2; subst a2
     refine ae (kn rfl rfl e8) (lR rfl rfl rfl (bN em rfl rfl ?_))
     obtain ⟨g7, c9, z⟩ := bq z
     have d3 := vf (x0 := (wr ((ix x1 0) + (ix x1 1))))  
     rw [c9] at d3
     refine cL d3 rfl rfl (ak rfl bc) (xT rfl rfl (xT rfl rfl (mV rfl (mV rfl (nS ?_)))))
     exact rT z rfl rfl rfl rfl rfl
    ·refine sR (bN dc rfl rfl (mV rfl (nS ?_)))
     refine bm z rfl ?_ ?_ <;> clear z <;> intro c z <;> try simp only [qa] at c
     ·refine aq (sR ?_)
      obtain ⟨g2, f8, a4⟩ := ln (t := tI) r1 (i := 0) (by omega) (by omega)
      have a4 : g2 = vi (ix x1 0) := a4; subst a4
      refine ae (kn rfl rfl f8) (lR rfl rfl rfl (bN ig rfl rfl (mV rfl ?_)))
      refine bw 6 (d := 67) (v := vb ((!decide ((ix x1 0) = 1)) || (!decide ((ix x1 1) = (ix x1 2))))) ?_ ?_
      ·intro S Q r
       cases d1 : (!decide ((ix x1 0) = 1))
       ·intro k
        have b6 := d1
        try simp only [qa] at b6
        obtain ⟨f4, f5, c0⟩ := ln (t := tI) r1 (i := 1) (by omega) (by omega)
        have c0 : f4 = vi (ix x1 1) := c0; subst c0
        refine ai rfl rfl (kn rfl rfl f5) (ai rfl rfl (ca rfl rfl rfl) ?_)
        obtain ⟨f9, g0, b0⟩ := ln (t := tI) r1 (i := 2) (by omega) (by omega)
        have b0 : f9 = vi (ix x1 2) := b0; subst b0
        refine ai rfl rfl (kn rfl rfl g0) (ai rfl rfl (ca rfl rfl rfl) (ai rfl rfl (bv rfl rfl ig) ?_))
        exact gK rfl rfl rfl rfl rfl k
       ·exact gN 5 rfl rfl rfl rfl rfl rfl
      refine nS ?_
      refine bm z rfl ?_ ?_ <;> clear z <;> intro c z <;> try simp only [qa] at c
      ·refine sR (mI rfl (mI rfl (nS ?_)))
       exact rT z rfl rfl rfl rfl rfl
      ·refine ax (am (sR ?_))
       obtain ⟨f6, e0, b5⟩ := ln (t := tI) r1 (i := 1) (by omega) (by omega)
       have b5 : f6 = vi (ix x1 1) := b5; subst b5
       refine ae (kn rfl rfl e0) (lR rfl rfl rfl (mV rfl (mI rfl (nS ?_))))
       exact rT z rfl rfl rfl rfl rfl
     ·refine ax (cp (am (aq (sR (fL rfl (ab.g_Op r0) rfl rfl ?_)))))
      obtain ⟨d7, d6, z⟩ := bq z
      have c2 := ac8 (x0 := x0.Op)  
      rw [d6] at c2
      refine cL c2 rfl rfl (ak rfl bc) (bN dc rfl rfl (mV rfl ?_))
      refine bw 6 (d := 80) (v := vb ((decide (d7 = 2)) && (!decide ((ix x1 0) = (ix x1 1))))) ?_ ?_
      ·intro S Q r
       cases c3 : (decide (d7 = 2))
       ·exact gN 5 rfl rfl rfl rfl rfl rfl
       ·intro k
        have a5 := c3
        try simp only [qa] at a5
        obtain ⟨f2, e1, b8⟩ := ln (t := tI) r1 (i := 0) (by omega) (by omega)
        have b8 : f2 = vi (ix x1 0) := b8; subst b8
        refine ai rfl rfl (kn rfl rfl e1) (ai rfl rfl (ca rfl rfl rfl) ?_)
        obtain ⟨e3, e5, a1⟩ := ln (t := tI) r1 (i := 1) (by omega) (by omega)
        have a1 : e3 = vi (ix x1 1) := a1; subst a1
        refine ai rfl rfl (kn rfl rfl e5) (ai rfl rfl (ca rfl rfl rfl) (ai rfl rfl (bv rfl rfl ig) ?_))
        exact gK rfl rfl rfl rfl rfl k
      refine nS ?_
      refine bm z rfl ?_ ?_ <;> clear z <;> intro c z <;> try simp only [qa] at c
      ·refine sR (mI rfl (mI rfl (nS ?_)))
       exact rT z rfl rfl rfl rfl rfl
      ·refine ax (am (aq (sR (fL rfl (ab.g_Op r0) rfl rfl (bN dc rfl rfl (mV rfl ?_))))))
       refine bw 4 (d := 88) (v := vb ((decide (x0.Op = 15)) || (decide (x0.Op = 16)))) ?_ ?_
       ·intro S Q r
        cases d4 : (decide (x0.Op = 15))
        ·intro k
         have b2 := d4
         try simp only [qa] at b2
         refine ai rfl rfl (cg rfl (ab.g_Op r0)) (ai rfl rfl (ca rfl rfl rfl) (ai rfl rfl (bv rfl rfl dc) ?_))
         exact gK rfl rfl rfl rfl rfl k
        ·exact gN 3 rfl rfl rfl rfl rfl rfl
       refine nS ?_
       refine bm z rfl ?_ ?_ <;> clear z <;> intro c z <;> try simp only [qa] at c
       ·refine sR (mI rfl (mI rfl (nS ?_)))
        exact rT z rfl rfl rfl rfl rfl
       ·refine ax (am (sR ?_))
        obtain ⟨f3, e4, b3⟩ := ln (t := tI) r1 (i := 0) (by omega) (by omega)
        have b3 : f3 = vi (ix x1 0) := b3; subst b3
        refine ae (kn rfl rfl e4) (lR rfl rfl rfl (mV rfl (mI rfl (nS ?_))))
        exact rT z rfl rfl rfl rfl rfl
 ·intro J
  refine bm z rfl ?_ ?_ <;> clear z <;> intro c z <;> try simp only [qa] at c
  ·refine ax ?_
   refine am (wC (J _  z) rfl)
  ·refine aw (bN dc rfl rfl (mV rfl (bp ?_)))
   refine am (wC (J _  z) rfl)

end Go.Proofs.YtmonnlkagniolaaGreat
