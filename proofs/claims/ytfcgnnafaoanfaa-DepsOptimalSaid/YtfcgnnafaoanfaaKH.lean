/-
  What the functions below the law on optimal stages compute, as plain functions.
-/
import Derived.Test.YtfcgnnafaoanfaaPbN
import Derived.Test.YtfcgnnafaoanfaaKG
set_option linter.unusedVariables false
set_option linter.unusedSimpArgs false
set_option maxRecDepth 100000
namespace Go.Proofs.Ytfcgnnafaoanfaa.N
open Go Go.Pb Go.RowKit
theorem toL {l : List Int} {v : PV} (h : (tSl tI).R l v) : IsL l v := slOf_weak h.1 fun _ _ h => h
theorem toM {l : List (List Int)} {v : PV} (h : (tSl (tSl tI)).R l v) : IsM l v := slOf_weak h.1 fun _ _ h => toL h
theorem ofL {l : List Int} {v : PV} (h : IsL l v) (hl : l.length ≤ 9223372036854775807) : (tSl tI).R l v := ⟨slOf_weak h fun _ _ h => h, hl⟩
noncomputable def law33_smallMatrix (x0 : List (List Int)) : Bool := tb (SmallM x0)
def law33_works : Bool := true
def deps_EarliestStages (x0 : List (List Int)) : List Int := eall x0 x0.length
noncomputable def deps_Satisfied (x0 : List (List Int)) (x1 : List Int) : Bool := tb (SatL x0 x1)
open Classical in
noncomputable def deps_CriticalPath (x0 : List (List Int)) : List Int := if h : ∃ p, CPath x0 p then Classical.choose h else []
theorem crit_eq {d : List (List Int)} {p : List Int} (h : CPath d p) : deps_CriticalPath d = p := by
  have h1 : ∃ p, CPath d p := ⟨p, h⟩
  unfold deps_CriticalPath
  rw [dif_pos h1]
  exact (Classical.choose_spec h1).uniq h
theorem f6_ok {x0 : List (List Int)} {v0 : PV} (r0 : (tSl (tSl tI)).R x0 v0) : FnR Try.prog 6 [v0] (vb (law33_smallMatrix x0)) := smallMatrix_fn (toM r0)
theorem f7_ok : FnR Try.prog 7 [] (vb law33_works) := works_fn
theorem f9_ok {x0 : List (List Int)} {v0 : PV} (r0 : (tSl (tSl tI)).R x0 v0) (hs : x0.length < 1000000) : ∃ r, FnR Try.prog 9 [v0] r ∧ (tSl tI).R (deps_EarliestStages x0) r := by
  have h := (EB.all (d := x0) x0.length (Nat.le_refl _)).1
  exact ⟨_, Earliest_fn (toM r0) hs, ofL (ints_isL _ false) (by unfold deps_EarliestStages; omega)⟩
theorem f11_ok {x0 : List (List Int)} {x1 : List Int} {v0 v1 : PV} (r0 : (tSl (tSl tI)).R x0 v0) (r1 : (tSl tI).R x1 v1) (hs : x0.length < 1000000) : FnR Try.prog 11 [v0, v1] (vb (deps_Satisfied x0 x1)) := Satisfied_fn (toM r0) (toL r1) hs
theorem f13_ok {x0 : List (List Int)} {v0 : PV} (r0 : (tSl (tSl tI)).R x0 v0) (hs : x0.length < 1000000) : ∃ r, FnR Try.prog 13 [v0] r ∧ (tSl tI).R (deps_CriticalPath x0) r := by
  obtain ⟨r, h1, p, h2, h3⟩ := CriticalPath_fn (toM r0) hs
  have h4 := h3.len
  exact ⟨r, h1, by rw [crit_eq h3]; exact ofL h2 (by omega)⟩
theorem small_len {d : List (List Int)} {b : Bool} (h : law33_smallMatrix d = b) (hb : b = true) : d.length ≤ 14 := by
  subst hb
  exact (tb_iff.1 h).1
theorem chn_in {d : List (List Int)} {n : Nat} {sz : Nat → Int} {a : Nat} {l : List Int} (ha : a < n) (h : Chn d n sz a l) : ∀ x ∈ l, 0 ≤ x ∧ x < n := by
  induction h with
  | last h => intro x hx; simp only [List.mem_cons, List.not_mem_nil, or_false] at hx; subst hx; omega
  | more h1 h2 h3 h4 h5 h6 ih =>
    intro x hx
    rcases List.mem_cons.1 hx with e | hx
    · subst e; omega
    · exact ih h2 x hx
theorem crit_in {d : List (List Int)} {y : List Int} {i : Int} (h : deps_CriticalPath d = y) (h0 : 0 ≤ i) (h1 : i < y.length) : 0 ≤ ix y i ∧ ix y i < d.length := by
  subst h
  have hm : ix (deps_CriticalPath d) i ∈ deps_CriticalPath d := by rw [ix_lt h0 h1]; exact List.getElem_mem _
  revert hm
  generalize ix (deps_CriticalPath d) i = x
  intro hm
  unfold deps_CriticalPath at hm
  split at hm
  · rename_i h
    rcases Classical.choose_spec h with ⟨h2, h3⟩ | ⟨sz, f, h2, h3, h4⟩
    · rw [h3] at hm; cases hm
    · exact chn_in h3.2.1 h4 x hm
  · cases hm
theorem crit_len {d : List (List Int)} {y : List Int} (h : deps_CriticalPath d = y) : y.length ≤ d.length := by
  subst h
  unfold deps_CriticalPath
  split
  · rename_i h
    exact (Classical.choose_spec h).len
  · simp
end Go.Proofs.Ytfcgnnafaoanfaa.N
