/-
  What the functions of this seat compute, for every input that fits.
-/
import Derived.Test.YtfcgnnafaoanfaaPbBool
import Derived.Test.YtfcgnnafaoanfaaKE
set_option linter.unusedVariables false
set_option linter.unusedSimpArgs false
set_option maxRecDepth 20000
namespace Go.Proofs.Ytfcgnnafaoanfaa
open Go Go.Pb Go.RowKit

/-! The critical path is one -/
theorem SzP.uniq {d : List (List Int)} {n : Nat} {sz sz' : Nat → Int} (h : SzP d n 0 sz) (h' : SzP d n 0 sz') : ∀ k i, n - i ≤ k → i < n → sz i = sz' i := by
  intro k
  induction k with
  | zero => intro i h1 h2; omega
  | succ k ih =>
    intro i h1 h2
    have e : ∀ j, j < n → Lat d i j → sz j = sz' j := fun j hj hL => ih j (by have := hL.rch.2; omega) hj
    obtain ⟨a1, b1, c1⟩ := h i (by omega) h2
    obtain ⟨a2, b2, c2⟩ := h' i (by omega) h2
    rcases c1 with c1 | ⟨j, hj, hL, c1⟩
    · rcases c2 with c2 | ⟨j, hj, hL, c2⟩
      · omega
      · have := b1 j hj hL; have := e j hj hL; omega
    · have := b2 j hj hL
      have := e j hj hL
      rcases c2 with c2 | ⟨j', hj', hL', c2⟩
      · omega
      · have := b1 j' hj' hL'; have := e j' hj' hL'; omega
theorem Chn.uniq {d : List (List Int)} {n : Nat} {sz sz' : Nat → Int} (he : ∀ i, i < n → sz i = sz' i) {a : Nat} {l l' : List Int} (ha : a < n) (h : Chn d n sz a l) (h' : Chn d n sz' a l') : l = l' := by
  induction h generalizing l' with
  | last h1 =>
    have := he _ ha
    cases h' with
    | last => rfl
    | more h2 => omega
  | @more a b l h1 h2 h3 h4 h5 h6 ih =>
    have ea := he _ ha
    cases h' with
    | last h2 => omega
    | @more _ b' l' k1 k2 k3 k4 k5 k6 =>
      have eb := he b h2
      have eb' := he b' k2
      have : b = b' := by
        rcases Nat.lt_trichotomy b b' with h | h | h
        · exact absurd (by omega) (k5 b h h3)
        · exact h
        · exact absurd (by omega) (h5 b' h k3)
      subst this
      rw [ih h2 k6]
theorem CPath.uniq {d : List (List Int)} {p q : List Int} (hp : CPath d p) (hq : CPath d q) : p = q := by
  rcases hp with ⟨h1, rfl⟩ | ⟨sz, f, h1, h2, h3⟩
  · rcases hq with ⟨_, rfl⟩ | ⟨sz', f', k1, k2, k3⟩
    · rfl
    · have := k2.2.1; omega
  · rcases hq with ⟨h4, rfl⟩ | ⟨sz', f', k1, k2, k3⟩
    · have := h2.2.1; omega
    · have he := fun i hi => SzP.uniq h1 k1 d.length i (by omega) hi
      have : f = f' := by
        have e1 := he f h2.2.1
        have e2 := he f' k2.2.1
        rcases Nat.lt_trichotomy f f' with h | h | h
        · have a := k2.2.2.2 f (by omega) h
          have b := h2.2.2.1 f' (by omega) k2.2.1
          omega
        · exact h
        · have a := h2.2.2.2 f' (by omega) h
          have b := k2.2.2.1 f (by omega) h2.2.1
          omega
      subst this
      exact Chn.uniq he h2.2.1 h3 k3

theorem Chn.len {d : List (List Int)} {n : Nat} {sz : Nat → Int} {a : Nat} {l : List Int} (ha : a < n) (h : Chn d n sz a l) : l.length ≤ n - a := by
  induction h with
  | last h1 => simp; omega
  | more h1 h2 h3 h4 h5 h6 ih =>
    have := h3.rch.2
    have := ih h2
    simp; omega
theorem CPath.len {d : List (List Int)} {p : List Int} (h : CPath d p) : p.length ≤ d.length := by
  rcases h with ⟨h1, rfl⟩ | ⟨sz, f, h1, h2, h3⟩
  · simp
  · have := h3.len h2.2.1; omega

/-! The example of the laws -/
def exD : List (List Int) := [[0, 1, 0], [0, 0, 2], [0, 0, 0]]
def exV : PV := .fs true [.fs true [vi 0, vi 1, vi 0], .fs true [vi 0, vi 0, vi 2], .fs true [vi 0, vi 0, vi 0]]
theorem exM : IsM exD exV := ⟨_, .inr ⟨true, rfl⟩, ints_isL _ true, ints_isL _ true, ints_isL _ true, trivial⟩
theorem exE : eall exD 3 = [0, 0, 1] := by decide
theorem exK {k j : Nat} (h : kindL exD k j ≠ 0) : (k = 0 ∧ j = 1) ∨ (k = 1 ∧ j = 2) := by
  have hkj := kind_lt h
  have hj : j < 3 := by
    refine Nat.lt_of_not_le fun hj => h ?_
    unfold kindL
    rw [if_neg (by omega), if_pos]
    rcases k with _ | _ | _ | k
    · exact hj
    · exact hj
    · exact hj
    · simp [exD]
  rcases j with _ | _ | _ | j
  · omega
  · exact .inl ⟨by omega, rfl⟩
  · rcases k with _ | _ | k
    · exact absurd (by decide) h
    · exact .inr ⟨rfl, rfl⟩
    · omega
  · omega
theorem exR {i j : Nat} (h : Rch exD i j) : i = j ∨ (i = 0 ∧ j = 1) ∨ (i = 0 ∧ j = 2) ∨ (i = 1 ∧ j = 2) := by
  induction h with
  | refl => exact .inl rfl
  | step h1 h2 h3 ih => rcases exK h3 with ⟨rfl, rfl⟩ | ⟨rfl, rfl⟩ <;> omega
theorem exL {i j : Nat} (h : Lat exD i j) : (i = 0 ∧ j = 2) ∨ (i = 1 ∧ j = 2) := by
  induction h with
  | first h1 h2 h3 =>
    have := exR h1
    rcases exK (by rw [h3]; decide) with ⟨rfl, rfl⟩ | ⟨rfl, rfl⟩
    · exact absurd h3 (by decide)
    · omega
  | step h1 h2 h3 ih => rcases exK h3 with ⟨rfl, rfl⟩ | ⟨rfl, rfl⟩ <;> omega
theorem exL12 : Lat exD 1 2 := .first .refl (by decide) (by decide)
theorem exL02 : Lat exD 0 2 := .first (.step .refl (by decide) (show kindL exD 0 1 ≠ 0 by decide)) (by decide) (by decide)
theorem exC : CPath exD [0, 2] := by
  refine .inr ⟨fun k => if k = 2 then 1 else 2, 0, ?_, ⟨by decide, by decide, ?_, ?_⟩, ?_⟩
  · intro i _ hi
    have hi : i < 3 := hi
    refine ⟨?_, fun j hj hL => ?_, ?_⟩
    · rcases i with _ | _ | _ | i
      · decide
      · decide
      · decide
      · omega
    · rcases exL hL with ⟨rfl, rfl⟩ | ⟨rfl, rfl⟩ <;> decide
    · rcases i with _ | _ | _ | i
      · exact .inr ⟨2, by decide, exL02, by decide⟩
      · exact .inr ⟨2, by decide, exL12, by decide⟩
      · exact .inl (by decide)
      · omega
  · intro i _ hi
    show (if i = 2 then (1 : Int) else 2) ≤ 2
    split <;> decide
  · intro i _ hi; omega
  · refine .more (by decide) (b := 2) (by decide) exL02 (by decide) (fun j hj hL => ?_) (.last (by decide))
    rcases exL hL with ⟨_, rfl⟩ | ⟨_, rfl⟩ <;> omega
theorem exS : SatL exD [0, 0, 1] := by
  refine ⟨rfl, fun j hj i hi => ?_⟩
  by_cases h : kindL exD i j = 0
  · rw [h]; exact ⟨fun h => by omega, fun h => by omega⟩
  · rcases exK h with ⟨rfl, rfl⟩ | ⟨rfl, rfl⟩ <;> exact ⟨by decide, by decide⟩
theorem exN : ¬SatL exD [1, 0, 1] := fun h => by
  have := (h.2 1 (by decide) 0 (by decide)).2 (by decide)
  simp at this

theorem works_fn : FnR Try.prog 7 [] (vb true) := by
  refine FnR.mk text7 (by simp) ?_
  rw [go_in, args_0]
  unfold ac7
  simp [bsliceR, cnt]
  obtain ⟨r, hr, p, hp, hcp⟩ := CriticalPath_fn exM (by decide)
  have := hcp.uniq exC
  subst this
  have he := Earliest_fn exM (by decide)
  rw [show eall exD exD.length = [0, 0, 1] from exE] at he
  have q1 := EqualInts_fn (ints_isL [0, 0, 1] false) (ints_isL [0, 0, 1] true) (by decide)
  have q2 := EqualInts_fn hp (ints_isL [0, 2] true) (by decide)
  have s1 := Satisfied_fn exM (ints_isL [0, 0, 1] true) (by decide)
  have s2 := Satisfied_fn exM (ints_isL [1, 0, 1] true) (by decide)
  rw [tb_true exS] at s1
  rw [tb_false exN] at s2
  refine k_of he rfl ?_
  simp [bsliceR, cnt]
  refine k_of q1 rfl ?_
  simp [bsliceR, cnt]
  refine k_of hr rfl ?_
  simp [bsliceR, cnt]
  refine k_of q2 (by simp [closedL, closed, IsL.closed _ _ hp]) ?_
  simp [bsliceR, cnt]
  refine k_of s1 rfl ?_
  simp [bsliceR, cnt]
  refine k_of s2 rfl ?_
  simp [bsliceR, cnt]

theorem DepsStages_fn {d : List (List Int)} {s : List Int} {v u : PV} (hv : IsM d v) (hu : IsL s u) : FnR Try.prog 3 [v, u] (vb true) := by
  refine FnR.mk text3 (by simp) ?_
  have ls := SlOf.len hu Try.underlying23
  have hc1 : closedL [v] = true := by simp [closedL, IsM.closed _ _ hv]
  have hc2 : closedL [v, u] = true := by simp [closedL, IsM.closed _ _ hv, IsL.closed _ _ hu]
  rw [go_in, args_2]
  unfold ac3
  simp
  refine k_of (smallMatrix_fn hv) hc1 ?_
  by_cases hsm : ¬SmallM d
  · simp [tb_false hsm]
    refine k_of works_fn rfl ?_
    simp
  have hsm : SmallM d := Classical.not_not.1 hsm
  have hs : d.length < 1000000 := by have := hsm.1; omega
  by_cases h20 : (20 : Int) < s.length
  · simp [tb_true hsm, ls, h20]
    refine k_of works_fn rfl ?_
    simp
  · simp [tb_true hsm, ls, h20]
    refine k_of (Earliest_fn hv hs) hc1 ?_
    simp
    refine k_of (refEarliest_fn hv hs) hc1 ?_
    simp
    have hE := (EB.all (d := d) d.length (Nat.le_refl _)).1
    refine k_of (EqualInts_fn (ints_isL _ false) (ints_isL _ false) (by omega)) (by simp [closedL, closed, ints_closed]) ?_
    simp
    refine k_of (Satisfied_fn hv hu hs) hc2 ?_
    simp
    refine k_of (refSatisfied_fn hv hu hs) hc2 ?_
    simp [Try.underlying4]
    refine k_of works_fn rfl ?_
    simp

theorem DepsCriticalPath_fn {d : List (List Int)} {v : PV} (hv : IsM d v) : FnR Try.prog 4 [v] (vb true) := by
  refine FnR.mk text4 (by simp) ?_
  have hc1 : closedL [v] = true := by simp [closedL, IsM.closed _ _ hv]
  rw [go_in, args_1]
  unfold ac4
  simp
  refine k_of (smallMatrix_fn hv) hc1 ?_
  by_cases hsm : SmallM d
  · have hs : d.length < 1000000 := by have := hsm.1; omega
    obtain ⟨r, hr, p, hp, hcp⟩ := CriticalPath_fn hv hs
    obtain ⟨r', hr', p', hp', hcp'⟩ := refCriticalPath_fn hv hs
    have := hcp.uniq hcp'
    subst this
    have hpl : p.length < 1000000 := by have := CPath.len hcp; omega
    have q := EqualInts_fn hp hp' hpl
    simp [tb_true hsm]
    refine k_of hr hc1 ?_
    simp
    refine k_of hr' hc1 ?_
    simp
    refine k_of q (by simp [closedL, IsL.closed _ _ hp, IsL.closed _ _ hp']) ?_
    simp
    refine k_of works_fn rfl ?_
    simp
  · simp [tb_false hsm]
    refine k_of works_fn rfl ?_
    simp

end Go.Proofs.Ytfcgnnafaoanfaa
