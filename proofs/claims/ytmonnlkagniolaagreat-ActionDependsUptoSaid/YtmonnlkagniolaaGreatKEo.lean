import Derived.Test.YtmonnlkagniolaaGreatKEp
import Derived.Test.YtmonnlkagniolaaGreatPbV
set_option linter.unusedVariables false
set_option linter.unusedSimpArgs false
set_option maxRecDepth 100000
namespace Go.Proofs.YtmonnlkagniolaaGreat
open Go Go.Pb Go.RowKit
theorem pk {α : Type} [Inhabited α] {l : List (List α)} {n : Nat} (h : ∀ x ∈ l, x.length ≤ n) {i : Int} (h0 : 0 ≤ i) (h1 : i < l.length) : (ix l i).length ≤ n := by
 rw [ut h0 h1]; exact h _ (List.getElem_mem _)
structure OE (h : Heap) (e : av) (a b c d : PV) (eb ef em ep : List PV) (I R : List Ent) : Prop where
 M : Mem h (⟨a, 4, 1, eb⟩ :: ⟨b, 43, 1, ef⟩ :: ⟨c, 89, 1, em⟩ :: ⟨d, 5, 1, ep⟩ :: (I ++ R))
 v : All2 tB.R e.Valid eb
 f : Ns dm 89 e.Fields ef I
 m : All2 dm.R e.Metd em
 p : All2 tU8.R e.Payload ep
 na : isL a = true
 nb : isL b = true
 nc : isL c = true
 nd : isL d = true
 wa : Wri a eb
 wb : Wri b ef
 wc : Wri c em
theorem yq {P : Program} {h : Heap} {v d : PV} (H : Deep P h v d) (hv : v.isAgg = false) (hd : d.isAgg = false) (h1 : ∀ x us, VRC P x v us → ∃ u, us = [u]) : DeepC P h v d := by
 refine ⟨H.1, by rw [hv, hd], fun k hk w0 F0 x us R hr => ?_⟩
 obtain ⟨u, rfl⟩ := h1 x us hr
 have := H.2 k hk w0 F0 x u R (by unfold VR; rw [hv]; exact hr)
 unfold VR at this
 rw [hd] at this
 exact this
theorem aq2 {P : Program} {h : Heap} {e : Ent} (H : EntR h e) (hne : isL e.v = true) : ∀ x us, VRC P x e.v us → ∃ u, us = [u] := by
 intro x us hr
 have HV := H.2
 unfold EntV at HV
 split at HV
 ·rename_i hv; rw [hv] at hne; cases hne
 ·rename_i hv; rw [hv] at hr; simp only [VRC] at hr; obtain ⟨b, cap, _, e, _⟩ := hr; exact ⟨_, e⟩
 ·rename_i hv; rw [hv] at hr; simp only [VRC] at hr; exact ⟨_, hr.1⟩
 ·rename_i hv; rw [hv] at hr; simp only [VRC] at hr; obtain ⟨b, o, cap, sz, e, _⟩ := hr; exact ⟨_, e⟩
 ·rename_i hv; rw [hv] at hne; cases hne
 ·exact HV.elim
section
variable {h : Heap} {e : av} {a b c d : PV} {eb ef em ep : List PV} {I R : List Ent}
theorem OE.deep (H : OE h e a b c d eb ef em ep I R) (hb : EB e) : ∃ r, Deep Tryz.prog h (.agg [a, b, c, d]) r ∧ av.t.R e r := by
 have M := H.M
 have Ma := M.at (k := 0) rfl
 have Mb := M.at (k := 1) rfl
 have Mc := M.at (k := 2) rfl
 have Md := M.at (k := 3) rfl
 obtain ⟨r0, d0, s0⟩ := oq (P := Tryz.prog) (t := tB) M (k := 0) rfl H.na H.v (by have := hb.v; omega)
 obtain ⟨r1, d1, s1⟩ := bo2 (P := Tryz.prog) (C := [⟨a, 4, 1, eb⟩, ⟨b, 43, 1, ef⟩, ⟨c, 89, 1, em⟩, ⟨d, 5, 1, ep⟩]) (k := 1) M rfl H.nb H.f (by have := hb.f; omega)
 obtain ⟨r2, d2, s2⟩ := oq (P := Tryz.prog) (t := dm) M (k := 2) rfl H.nc H.m (by have := hb.m; omega)
 obtain ⟨r3, d3, s3⟩ := oq (P := Tryz.prog) (t := tU8) M (k := 3) rfl H.nd H.p (by have := hb.p; omega)
 have D : DeepCL Tryz.prog h [a, b, c, d] [r0, r1, r2, r3] :=
  ⟨yq d0 (fb (k := 0) M rfl H.na).2 (TR.agg _ s0) (aq2 Ma H.na), yq d1 (fb (k := 1) M rfl H.nb).2 (TR.agg _ s1) (aq2 Mb H.nb),
   yq d2 (fb (k := 2) M rfl H.nc).2 (TR.agg _ s2) (aq2 Mc H.nc), yq d3 (fb (k := 3) M rfl H.nd).2 (TR.agg _ s3) (aq2 Md H.nd), trivial⟩
 refine ⟨.agg [r0, r1, r2, r3], DeepC.deep ⟨by simpa [closed] using D.closed, rfl, fun k hk w0 F0 x us RR hv => ?_⟩, r0, r1, r2, r3, rfl, s0, s1, s2, s3⟩
 simp only [VRC] at hv ⊢
 exact D.vrl hk RR hv
theorem OE.inner (H : OE h e a b c d eb ef em ep I R) {i : Int} (h0 : 0 ≤ i) (h1 : i < e.Fields.length) :
 ∃ v es, ef[i.toNat]? = some v ∧ I[i.toNat]? = some ⟨v, 89, 1, es⟩ ∧ (⟨a, 4, 1, eb⟩ :: ⟨b, 43, 1, ef⟩ :: ⟨c, 89, 1, em⟩ :: ⟨d, 5, 1, ep⟩ :: (I ++ R))[i.toNat + 4]? = some (⟨v, 89, 1, es⟩ : Ent) ∧ All2 dm.R (ix e.Fields i) es ∧ isL v = true ∧ (ix e.Fields i).length ≤ 4611686018427387904 ∧ Wri v es := by
 obtain ⟨v, es, g1, g2, g3, g4, g5, g6⟩ := cw3 H.f h0 h1
 refine ⟨v, es, g1, g2, ?_, g3, g4, g5, g6⟩
 simp only [List.getElem?_cons_succ]
 rw [List.getElem?_append_left (List.getElem?_eq_some_iff.1 g2).1]
 exact g2
theorem ak3 {g : Ent} {X I R : List Ent} : (g :: (X ++ (I ++ R))).Perm (X ++ (I ++ (g :: R))) := by
 have e1 : X ++ (I ++ (g :: R)) = (X ++ I) ++ g :: R := by simp
 have e2 : X ++ (I ++ R) = (X ++ I) ++ R := by simp
 rw [e1, e2]
 exact List.perm_middle.symm
theorem OE.mem (H : OE h e a b c d eb ef em ep I R) {h' : Heap} {R' : List Ent} (M : Mem h' (⟨a, 4, 1, eb⟩ :: ⟨b, 43, 1, ef⟩ :: ⟨c, 89, 1, em⟩ :: ⟨d, 5, 1, ep⟩ :: (I ++ R'))) : OE h' e a b c d eb ef em ep I R' := { H with M := M }
theorem OE.push (H : OE h e a b c d eb ef em ep I R) {h' : Heap} {g : Ent} (M : Mem h' (g :: ⟨a, 4, 1, eb⟩ :: ⟨b, 43, 1, ef⟩ :: ⟨c, 89, 1, em⟩ :: ⟨d, 5, 1, ep⟩ :: (I ++ R))) : OE h' e a b c d eb ef em ep I (g :: R) :=
 { H with M := Mem.perm M (ak3 (X := [⟨a, 4, 1, eb⟩, ⟨b, 43, 1, ef⟩, ⟨c, 89, 1, em⟩, ⟨d, 5, 1, ep⟩])) }
theorem OE.pull {g : Ent} (H : OE h e a b c d eb ef em ep I (g :: R)) : Mem h (g :: ⟨a, 4, 1, eb⟩ :: ⟨b, 43, 1, ef⟩ :: ⟨c, 89, 1, em⟩ :: ⟨d, 5, 1, ep⟩ :: (I ++ R)) :=
 Mem.perm H.M (ak3 (X := [⟨a, 4, 1, eb⟩, ⟨b, 43, 1, ef⟩, ⟨c, 89, 1, em⟩, ⟨d, 5, 1, ep⟩])).symm
theorem OE.setM (H : OE h e a b c d eb ef em ep I R) {h' : Heap} {x : BitVec 32} {k : Nat} (M : Mem h' ((⟨a, 4, 1, eb⟩ :: ⟨b, 43, 1, ef⟩ :: ⟨c, 89, 1, em⟩ :: ⟨d, 5, 1, ep⟩ :: (I ++ R)).set 2 ⟨c, 89, 1, em.set k (bm x)⟩)) (hw : ∃ id ver n, c = .os id ver 0 n) : OE h' { e with Metd := e.Metd.set k x } a b c d eb ef (em.set k (bm x)) ep I R :=
 { H with M := M, m := All2.set H.m rfl, wc := .inr hw }
theorem OE.setF (H : OE h e a b c d eb ef em ep I R) {h' : Heap} {x : BitVec 32} {i : Int} {k : Nat} {v : PV} {es : List PV} (g1 : ef[i.toNat]? = some v) (g2 : I[i.toNat]? = some ⟨v, 89, 1, es⟩) (g3 : All2 dm.R (ix e.Fields i) es) (g4 : isL v = true) (g5 : (ix e.Fields i).length ≤ 4611686018427387904)
 (M : Mem h' ((⟨a, 4, 1, eb⟩ :: ⟨b, 43, 1, ef⟩ :: ⟨c, 89, 1, em⟩ :: ⟨d, 5, 1, ep⟩ :: (I ++ R)).set (i.toNat + 4) ⟨v, 89, 1, es.set k (bm x)⟩)) (hw : ∃ id ver n, v = .os id ver 0 n) :
 OE h' { e with Fields := e.Fields.set i.toNat ((ix e.Fields i).set k x) } a b c d eb ef em ep (I.set i.toNat ⟨v, 89, 1, es.set k (bm x)⟩) R := by
 refine { H with M := ?_, f := ao7 H.f g1 (All2.set g3 rfl) g4 (by rw [List.length_set]; exact g5) (.inr hw) }
 simp only [List.set_cons_succ] at M
 rwa [List.set_append_left _ _ (List.getElem?_eq_some_iff.1 g2).1] at M
theorem OE.setV (H : OE h e a b c d eb ef em ep I R) {h' : Heap} {x : Bool} {k : Nat} (M : Mem h' ((⟨a, 4, 1, eb⟩ :: ⟨b, 43, 1, ef⟩ :: ⟨c, 89, 1, em⟩ :: ⟨d, 5, 1, ep⟩ :: (I ++ R)).set 0 ⟨a, 4, 1, eb.set k (vb x)⟩)) (hw : ∃ id ver n, a = .os id ver 0 n) : OE h' { e with Valid := e.Valid.set k x } a b c d (eb.set k (vb x)) ef em ep I R :=
 { H with M := M, v := All2.set H.v rfl, wa := .inr hw }
theorem OE.clrF (H : OE h e a b c d eb ef em ep I R) {h' : Heap} {i : Int} {v : PV} {es : List PV} (g1 : ef[i.toNat]? = some v) (g2 : I[i.toNat]? = some ⟨v, 89, 1, es⟩) (g3 : All2 dm.R (ix e.Fields i) es) (g4 : isL v = true) (g5 : (ix e.Fields i).length ≤ 4611686018427387904) (g6 : Wri v es)
 (M : Mem h' ((⟨a, 4, 1, eb⟩ :: ⟨b, 43, 1, ef⟩ :: ⟨c, 89, 1, em⟩ :: ⟨d, 5, 1, ep⟩ :: (I ++ R)).set (i.toNat + 4) ⟨v, 89, 1, List.replicate es.length (bm 0#32)⟩)) :
 OE h' { e with Fields := e.Fields.set i.toNat (List.replicate (ix e.Fields i).length 0#32) } a b c d eb ef em ep (I.set i.toNat ⟨v, 89, 1, List.replicate es.length (bm 0#32)⟩) R := by
 have hl := g3.length
 refine { H with M := ?_, f := ao7 H.f g1 (by rw [← hl]; exact All2.rep (R := dm.R) rfl _) g4 (by rw [List.length_replicate]; exact g5) ?_ }
 ·simp only [List.set_cons_succ] at M
  rwa [List.set_append_left _ _ (List.getElem?_eq_some_iff.1 g2).1] at M
 ·rcases g6 with rfl | h6
  ·exact .inl rfl
  ·exact .inr h6
def elv (c : PV) (ef : List PV) (r : aa) : PV := if r.Header = -1 then c else if 0 ≤ r.Header ∧ r.Header < (ef.length : Int) then ef.getD r.Header.toNat nilS else nilS
end
end Go.Proofs.YtmonnlkagniolaaGreat
