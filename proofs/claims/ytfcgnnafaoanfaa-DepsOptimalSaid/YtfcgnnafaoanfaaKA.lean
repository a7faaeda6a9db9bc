/-
  What the functions of this seat compute, for every input that fits.
-/
import Derived.Test.YtfcgnnafaoanfaaPbMem
import Derived.Test.YtfcgnnafaoanfaaKText
set_option linter.unusedVariables false
set_option linter.unusedSimpArgs false
set_option maxRecDepth 20000
namespace Go.Proofs.Ytfcgnnafaoanfaa
open Go Go.Pb Go.RowKit

/-- The dependency of unit j on unit i. -/
def kindL (d : List (List Int)) (i j : Nat) : Int :=
  if j ≤ i then 0 else if (d.getD i []).length ≤ j then 0 else if (d.getD i []).getD j 0 = 1 ∨ (d.getD i []).getD j 0 = 2 then (d.getD i []).getD j 0 else 0

theorem kind_fn {d : List (List Int)} {v : PV} (hv : IsM d v) {i j : Nat} (hi : i < d.length) : FnR Try.prog 15 [v, vi i, vi j] (vi (kindL d i j)) := by
  refine FnR.mk text15 (by simp) ?_
  obtain ⟨row, hrow, hidx⟩ := SlOf.idx hv (fun l e h => SlOf.cnt h) hi
  have hlen := SlOf.len hrow Try.underlying23
  have hl := load_fp (h := ⟨0, []⟩) (SlOf.cnt hrow) (SlOf.agg hrow)
  rw [go_in, args_3]
  unfold ac15 kindL
  by_cases h1 : j ≤ i
  · simp [h1]
  by_cases h2 : d[i].length ≤ j
  · simp [h1, h2, hidx, hl, hlen, hi]
  have he := IsL.idx hrow (k := j) (by omega)
  have h3 : j < d[i].length := by omega
  by_cases h4 : d[i][j] = 1
  · simp [h1, h2, hidx, hl, hlen, he, hi, h4, h3]
  by_cases h5 : d[i][j] = 2
  · simp [h1, h2, hidx, hl, hlen, he, hi, h5, h3]
  · simp [h1, h2, hidx, hl, hlen, he, hi, h4, h5, h3]

theorem at_fn {d : List (List Int)} {v : PV} (hv : IsM d v) {i j : Nat} (hi : i < d.length) : FnR Try.prog 16 [v, vi i, vi j] (vi (kindL d i j)) := by
  refine FnR.mk text16 (by simp) ?_
  obtain ⟨row, hrow, hidx⟩ := SlOf.idx hv (fun l e h => SlOf.cnt h) hi
  have hlen := SlOf.len hrow Try.underlying23
  have hl := load_fp (h := ⟨0, []⟩) (SlOf.cnt hrow) (SlOf.agg hrow)
  rw [go_in, args_3]
  unfold ac16 kindL
  by_cases h1 : j ≤ i
  · simp [h1]
  by_cases h2 : d[i].length ≤ j
  · simp [h1, h2, hidx, hl, hlen, hi]
  have he := IsL.idx hrow (k := j) (by omega)
  have h3 : j < d[i].length := by omega
  by_cases h4 : d[i][j] = 1
  · simp [h1, h2, hidx, hl, hlen, he, hi, h4, h3]
  by_cases h5 : d[i][j] = 2
  · simp [h1, h2, hidx, hl, hlen, he, hi, h5, h3]
  · simp [h1, h2, hidx, hl, hlen, he, hi, h4, h5, h3]

theorem EqualInts_fn {a b : List Int} {va vb' : PV} (ha : IsL a va) (hb : IsL b vb') (hs : a.length < 1000000) : FnR Try.prog 8 [va, vb'] (vb (decide (a = b))) := by
  refine FnR.mk text8 (by simp) ?_
  have la := SlOf.len ha Try.underlying23
  have lb := SlOf.len hb Try.underlying23
  rw [go_in, args_2]
  unfold ac8
  by_cases h1 : a.length = b.length
  · have hlen := h1
    simp [la, lb, h1]
    refine loop_of (fun N T h => ∃ i, i ≤ a.length ∧ N = a.length - i ∧ a.take i = b.take i ∧ h = ⟨0, []⟩ ∧ T 0 = va ∧ T 1 = vb' ∧ T 5 = vi i) a.length ⟨0, by simp⟩ ?_
    rintro N T h ⟨i, hi, hN, hT, rfl, h0, h1, h5⟩
    by_cases hlt : i < a.length
    · have ea := IsL.idx ha hlt
      have eb := IsL.idx hb (k := i) (by omega)
      have w := wrap_i64 (n := (i : Int) + 1) (by omega) (by omega)
      by_cases heq : a[i] = b[i]
      · simp [h0, h1, h5, la, lb, hlt, ea, eb, heq, w]
        refine ⟨a.length - (i + 1), by omega, i + 1, by omega, rfl, ?_, rfl⟩
        rw [List.take_succ_eq_append_getElem hlt, List.take_succ_eq_append_getElem (by omega), hT, heq]
      · have : ¬a = b := fun e => heq (by subst e; rfl)
        simp [h0, h1, h5, la, lb, hlt, ea, eb, heq, this]
    · have e1 : i = a.length := by omega
      have : a = b := by
        rw [e1, List.take_length, hlen, List.take_length] at hT
        exact hT
      simp [h0, h1, h5, la, lb, hlt]
      simp [this]
  · have h1' : ¬((a.length : Int) = b.length) := by omega
    have : ¬a = b := fun e => h1 (by rw [e])
    simp [la, lb, h1', this]

/-! EarliestStages -/
def estep (d : List (List Int)) (j i : Nat) (o : List Int) : List Int :=
  if kindL d i j = 2 then o.set j (max (o.getD j 0) (o.getD i 0 + 1)) else if kindL d i j = 1 then o.set j (max (o.getD j 0) (o.getD i 0)) else o
def erow (d : List (List Int)) (j : Nat) (o : List Int) : Nat → List Int
  | 0 => o
  | i + 1 => estep d j i (erow d j o i)
def eall (d : List (List Int)) : Nat → List Int
  | 0 => List.replicate d.length 0
  | j + 1 => erow d j (eall d j) j
/-- As many as the matrix has, none above its place. -/
def EB (n : Nat) (l : List Int) : Prop := l.length = n ∧ ∀ k (hk : k < l.length), 0 ≤ l[k] ∧ l[k] ≤ k
theorem EB.step {d : List (List Int)} {n j i : Nat} {o : List Int} (h : EB n o) (hi : i < j) (hj : j < n) : EB n (estep d j i o) := by
  obtain ⟨h1, h2⟩ := h
  have a := h2 i (by omega)
  have b := h2 j (by omega)
  have key : ∀ x : Int, 0 ≤ x → x ≤ j → EB n (o.set j x) := fun x hx hx' => by
    refine ⟨by simpa using h1, fun k hk => ?_⟩
    rw [List.getElem_set]
    split
    · rename_i e; subst e; exact ⟨hx, hx'⟩
    · exact h2 k (by simpa using hk)
  have gi : o.getD i 0 = o[i] := by rw [List.getD_eq_getElem?_getD, List.getElem?_eq_getElem (by omega)]; rfl
  have gj : o.getD j 0 = o[j] := by rw [List.getD_eq_getElem?_getD, List.getElem?_eq_getElem (by omega)]; rfl
  unfold estep
  rw [gi, gj]
  split
  · exact key _ (by omega) (by omega)
  · split
    · exact key _ (by omega) (by omega)
    · exact ⟨h1, h2⟩
theorem EB.row {d : List (List Int)} {n j : Nat} {o : List Int} (h : EB n o) (hj : j < n) : ∀ i, i ≤ j → EB n (erow d j o i)
  | 0, _ => h
  | i + 1, hi => (EB.row h hj i (by omega)).step (by omega) hj
theorem EB.all {d : List (List Int)} : ∀ j, j ≤ d.length → EB d.length (eall d j)
  | 0, _ => ⟨by simp [eall], fun k hk => by simp [eall]⟩
  | j + 1, hj => EB.row (EB.all j (by omega)) (by omega) j (Nat.le_refl j)


set_option maxHeartbeats 1000000 in
theorem Earliest_fn {d : List (List Int)} {v : PV} (hv : IsM d v) (hs : d.length < 1000000) : FnR Try.prog 9 [v] (.fs false ((eall d d.length).map vi)) := by
  refine FnR.mk text9 (by simp) ?_
  have ld := SlOf.len hv Try.underlying22
  rw [go_in, args_1]
  unfold ac9
  have mk := mkSlice_1 (h := ⟨0, []⟩) (e := 3) (v := vi 0) (k := .i64) (k' := .i64) (fits_small (m := d.length) (bytes := 8) (by omega) (by omega))
  simp [ld, mk, Value.cells]
  refine loop_of (fun N T h => ∃ j, j ≤ d.length ∧ N = d.length - j ∧ h = ⟨1, [.cells 0 3 true ((eall d j).map vi)]⟩ ∧ T 0 = v ∧ T 3 = .os 0 0 0 d.length ∧ T 10 = vi d.length ∧ T 11 = vi j) d.length ⟨0, ?_⟩ ?_
  · simp [eall]
  rintro N T h ⟨j, hj, rfl, rfl, h0, h3, h10, h11⟩
  by_cases hlt : j < d.length
  · simp [h0, h3, h10, h11, hlt]
    refine loop_of (fun N T h => ∃ i, i ≤ j ∧ N = j - i ∧ h = ⟨1, [.cells 0 3 true ((erow d j (eall d j) i).map vi)]⟩ ∧ T 0 = v ∧ T 3 = .os 0 0 0 d.length ∧ T 10 = vi d.length ∧ T 11 = vi j ∧ T 4 = vi j ∧ T 14 = vi j ∧ T 15 = vi i) j ⟨0, ?_⟩ ?_
    · simp [erow, h0, h3, h10, h11]
    rintro N' T h ⟨i, hi, rfl, rfl, h0, h3, h10, h11, h4, h14, h15⟩
    by_cases hlt2 : i < j
    · simp [h0, h3, h10, h11, h4, h14, h15, hlt2]
      refine k_of (kind_fn hv (by omega)) (by simp [closedL, closed, IsM.closed _ _ hv]) ?_
      obtain ⟨e1, e2⟩ := EB.row (d := d) (EB.all (d := d) j hj) hlt i hi
      generalize hl : erow d j (eall d j) i = l at *
      have b1 := e2 i (by omega)
      have w1 := wrap_i64 (n := (i : Int) + 1) (by omega) (by omega)
      have w2 := wrap_i64 (n := l[i] + 1) (by omega) (by omega)
      have li := load_op (h := ⟨1, [.cells 0 3 true (l.map vi)]⟩) (id := 0) (off := i) rfl (c := vi l[i]) (by simp) rfl
      have lj := load_op (h := ⟨1, [.cells 0 3 true (l.map vi)]⟩) (id := 0) (off := j) rfl (c := vi l[j]) (by simp) rfl
      have st := fun x => store_op (h := ⟨1, [.cells 0 3 true (l.map vi)]⟩) (id := 0) (off := j) (c := vi x) rfl (by simp [e1, hlt]) rfl
      have xi := idx_os (id := 0) (ver := 0) (off := 0) (n := d.length) (j := i) (k := .i64) (by omega) 1
      have xj := idx_os (id := 0) (ver := 0) (off := 0) (n := d.length) (j := j) (k := .i64) (by omega) 1
      have gi : l[i]? = some l[i] := List.getElem?_eq_getElem (by omega)
      have gj : l[j]? = some l[j] := List.getElem?_eq_getElem (by omega)
      simp at li lj st xi xj
      by_cases k2 : kindL d i j = 2
      · simp [h0, h3, h10, h11, h4, h14, h15, k2, xi, xj, li, lj, w1, w2, st]
        refine ⟨j - (i + 1), by omega, i + 1, by omega, rfl, ?_, rfl⟩
        simp [erow, hl, estep, k2, gi, gj, List.map_set]
      · by_cases k1 : kindL d i j = 1
        · simp [h0, h3, h10, h11, h4, h14, h15, k1, xi, xj, li, lj, w1, w2, st]
          refine ⟨j - (i + 1), by omega, i + 1, by omega, rfl, ?_, rfl⟩
          simp [erow, hl, estep, k1, gi, gj, List.map_set]
        · simp [h0, h3, h10, h11, h4, h14, h15, k1, k2, w1]
          refine ⟨j - (i + 1), by omega, i + 1, by omega, rfl, ?_, rfl⟩
          simp [erow, hl, estep, k1, k2]
    · have : i = j := by omega
      subst this
      have w1 := wrap_i64 (n := (i : Int) + 1) (by omega) (by omega)
      simp [h0, h3, h10, h11, h4, h14, h15, w1]
      exact ⟨d.length - (i + 1), by omega, i + 1, by omega, rfl, rfl, rfl⟩
  · have : j = d.length := by omega
    subst this
    simp [h0, h3, h10, h11]
    exact deep_own rfl (by simp [(EB.all (d := d) d.length (Nat.le_refl _)).1]) (ints_one _) (ints_closed _)

set_option maxHeartbeats 1000000 in
theorem refEarliest_fn {d : List (List Int)} {v : PV} (hv : IsM d v) (hs : d.length < 1000000) : FnR Try.prog 10 [v] (.fs false ((eall d d.length).map vi)) := by
  refine FnR.mk text10 (by simp) ?_
  have ld := SlOf.len hv Try.underlying22
  rw [go_in, args_1]
  unfold ac10
  have mk := mkSlice_1 (h := ⟨0, []⟩) (e := 3) (v := vi 0) (k := .i64) (k' := .i64) (fits_small (m := d.length) (bytes := 8) (by omega) (by omega))
  simp [ld, mk, Value.cells]
  refine loop_of (fun N T h => ∃ j, j ≤ d.length ∧ N = d.length - j ∧ h = ⟨1, [.cells 0 3 true ((eall d j).map vi)]⟩ ∧ T 0 = v ∧ T 3 = .os 0 0 0 d.length ∧ T 4 = vi j) d.length ⟨0, ?_⟩ ?_
  · simp [eall]
  rintro N T h ⟨j, hj, rfl, rfl, h0, h3, h4⟩
  by_cases hlt : j < d.length
  · simp [h0, h3, h4, hlt, ld]
    refine loop_of (fun N T h => ∃ i, i ≤ j ∧ N = j - i ∧ h = ⟨1, [.cells 0 3 true ((erow d j (eall d j) i).map vi)]⟩ ∧ T 0 = v ∧ T 3 = .os 0 0 0 d.length ∧ T 4 = vi j ∧ T 5 = vi i) j ⟨0, ?_⟩ ?_
    · simp [erow, h0, h3, h4, ld]
    rintro N' T h ⟨i, hi, rfl, rfl, h0, h3, h4, h5⟩
    by_cases hlt2 : i < j
    · simp [h0, h3, h4, h5, hlt2]
      refine k_of (at_fn hv (by omega)) (by simp [closedL, closed, IsM.closed _ _ hv]) ?_
      obtain ⟨e1, e2⟩ := EB.row (d := d) (EB.all (d := d) j hj) hlt i hi
      generalize hl : erow d j (eall d j) i = l at *
      have b1 := e2 i (by omega)
      have w1 := wrap_i64 (n := (i : Int) + 1) (by omega) (by omega)
      have w2 := wrap_i64 (n := l[i] + 1) (by omega) (by omega)
      have li := load_op (h := ⟨1, [.cells 0 3 true (l.map vi)]⟩) (id := 0) (off := i) rfl (c := vi l[i]) (by simp) rfl
      have lj := load_op (h := ⟨1, [.cells 0 3 true (l.map vi)]⟩) (id := 0) (off := j) rfl (c := vi l[j]) (by simp) rfl
      have st := fun x => store_op (h := ⟨1, [.cells 0 3 true (l.map vi)]⟩) (id := 0) (off := j) (c := vi x) rfl (by simp [e1, hlt]) rfl
      have xi := idx_os (id := 0) (ver := 0) (off := 0) (n := d.length) (j := i) (k := .i64) (by omega) 1
      have xj := idx_os (id := 0) (ver := 0) (off := 0) (n := d.length) (j := j) (k := .i64) (by omega) 1
      have gi : l[i]? = some l[i] := List.getElem?_eq_getElem (by omega)
      have gj : l[j]? = some l[j] := List.getElem?_eq_getElem (by omega)
      simp at li lj st xi xj
      by_cases k2 : kindL d i j = 2
      · simp [h0, h3, h4, h5, k2, xi, xj, li, lj, w1, w2, st]
        refine ⟨j - (i + 1), by omega, i + 1, by omega, rfl, ?_, rfl⟩
        simp [erow, hl, estep, k2, gi, gj, List.map_set]
      · by_cases k1 : kindL d i j = 1
        · simp [h0, h3, h4, h5, k1, xi, xj, li, lj, w1, w2, st]
          refine ⟨j - (i + 1), by omega, i + 1, by omega, rfl, ?_, rfl⟩
          simp [erow, hl, estep, k1, gi, gj, List.map_set]
        · simp [h0, h3, h4, h5, k1, k2, w1]
          refine ⟨j - (i + 1), by omega, i + 1, by omega, rfl, ?_, rfl⟩
          simp [erow, hl, estep, k1, k2]
    · have : i = j := by omega
      subst this
      have w1 := wrap_i64 (n := (i : Int) + 1) (by omega) (by omega)
      simp [h0, h3, h4, h5, w1]
      exact ⟨d.length - (i + 1), by omega, i + 1, by omega, rfl, rfl, rfl⟩
  · have : j = d.length := by omega
    subst this
    simp [h0, h3, h4, ld]
    exact deep_own rfl (by simp [(EB.all (d := d) d.length (Nat.le_refl _)).1]) (ints_one _) (ints_closed _)

def SmallM (d : List (List Int)) : Prop := d.length ≤ 14 ∧ ∀ i (h : i < d.length), d[i].length ≤ 20

theorem smallMatrix_fn {d : List (List Int)} {v : PV} (hv : IsM d v) : FnR Try.prog 6 [v] (vb (tb (SmallM d))) := by
  refine FnR.mk text6 (by simp) ?_
  have ld := SlOf.len hv Try.underlying22
  rw [go_in, args_1]
  unfold ac6
  by_cases h14 : (14 : Int) < d.length
  · have : ¬SmallM d := fun h => by have := h.1; omega
    simp [ld, h14, tb_false this]
  have h14' : d.length ≤ 14 := by omega
  simp [ld, h14]
  refine loop_of (fun N T h => ∃ i, i ≤ d.length ∧ N = d.length - i ∧ h = ⟨0, []⟩ ∧ T 0 = v ∧ T 3 = vi i ∧ ∀ k (h : k < d.length), k < i → d[k].length ≤ 20) d.length ⟨0, ?_⟩ ?_
  · simp
  rintro N T h ⟨i, hi, rfl, rfl, h0, h3, hall⟩
  by_cases hlt : i < d.length
  · obtain ⟨row, hrow, hidx⟩ := SlOf.idx hv (fun l e h => SlOf.cnt h) hlt
    have hlen := SlOf.len hrow Try.underlying23
    have hl := load_fp (h := ⟨0, []⟩) (SlOf.cnt hrow) (SlOf.agg hrow)
    have w1 := wrap_i64 (n := (i : Int) + 1) (by omega) (by omega)
    by_cases h20 : (20 : Int) < d[i].length
    · have : ¬SmallM d := fun h => by have := h.2 i hlt; omega
      simp [h0, h3, ld, hlt, hidx, hl, hlen, h20, tb_false this]
    · simp [h0, h3, ld, hlt, hidx, hl, hlen, h20, w1]
      refine ⟨d.length - (i + 1), by omega, i + 1, by omega, rfl, rfl, fun k hk hk' => ?_⟩
      by_cases e : k = i
      · subst e; omega
      · exact hall k hk (by omega)
  · have : SmallM d := ⟨h14', fun k hk => hall k hk (by omega)⟩
    simp [h0, h3, ld, hlt, tb_true this]

/-! Satisfied -/
def satK (k a b : Int) : Prop := (k = 2 → a < b) ∧ (k = 1 → a ≤ b)
def SatL (d : List (List Int)) (s : List Int) : Prop := s.length = d.length ∧ ∀ j, j < d.length → ∀ i, i < j → satK (kindL d i j) (s.getD i 0) (s.getD j 0)
set_option maxHeartbeats 1000000 in
theorem Satisfied_fn {d : List (List Int)} {s : List Int} {v u : PV} (hv : IsM d v) (hu : IsL s u) (hs : d.length < 1000000) : FnR Try.prog 11 [v, u] (vb (tb (SatL d s))) := by
  refine FnR.mk text11 (by simp) ?_
  have ld := SlOf.len hv Try.underlying22
  have ls := SlOf.len hu Try.underlying23
  rw [go_in, args_2]
  unfold ac11
  by_cases hl' : (s.length : Int) ≠ d.length
  · have hn : tb (SatL d s) = false := tb_false fun h => hl' (by rw [h.1])
    simp [ld, ls, hl', hn]
  have hl : (s.length : Int) = d.length := by omega
  simp [ld, ls, hl]
  refine loop_of (fun N T h => ∃ j, j ≤ d.length ∧ N = d.length - j ∧ h = ⟨0, []⟩ ∧ T 0 = v ∧ T 1 = u ∧ T 13 = vi d.length ∧ T 14 = vi j ∧ ∀ j', j' < j → ∀ i, i < j' → satK (kindL d i j') (s.getD i 0) (s.getD j' 0)) d.length ⟨0, ?_⟩ ?_
  · simp
  rintro N T h ⟨j, hj, rfl, rfl, h0, h1, h13, h14, hok⟩
  by_cases hlt : j < d.length
  · simp [h0, h1, h13, h14, hlt]
    refine loop_of (fun N T h => ∃ i, i ≤ j ∧ N = j - i ∧ h = ⟨0, []⟩ ∧ T 0 = v ∧ T 1 = u ∧ T 13 = vi d.length ∧ T 14 = vi j ∧ T 5 = vi j ∧ T 17 = vi j ∧ T 18 = vi i ∧ ∀ i', i' < i → satK (kindL d i' j) (s.getD i' 0) (s.getD j 0)) j ⟨0, ?_⟩ ?_
    · simp [h0, h1, h13, h14]
    rintro N' T h ⟨i, hi, rfl, rfl, h0, h1, h13, h14, h5, h17, h18, hok2⟩
    by_cases hlt2 : i < j
    · simp [h0, h1, h13, h14, h5, h17, h18, hlt2]
      refine k_of (kind_fn hv (by omega)) (by simp [closedL, closed, IsM.closed _ _ hv]) ?_
      have w1 := wrap_i64 (n := (i : Int) + 1) (by omega) (by omega)
      have xi := IsL.idx hu (k := i) (by omega)
      have xj := IsL.idx hu (k := j) (by omega)
      have gi : s.getD i 0 = s[i] := by rw [List.getD_eq_getElem?_getD, List.getElem?_eq_getElem (by omega)]; rfl
      have gj : s.getD j 0 = s[j] := by rw [List.getD_eq_getElem?_getD, List.getElem?_eq_getElem (by omega)]; rfl
      have step : satK (kindL d i j) s[i] s[j] → ∀ i', i' < i + 1 → satK (kindL d i' j) (s.getD i' 0) (s.getD j 0) := fun h i' hi' => by
        by_cases e : i' = i
        · subst e; rw [gi, gj]; exact h
        · exact hok2 i' (by omega)
      have bad : ¬satK (kindL d i j) s[i] s[j] → tb (SatL d s) = false := fun h => tb_false fun hh => h (by have := hh.2 j hlt i hlt2; rwa [gi, gj] at this)
      by_cases k2 : kindL d i j = 2
      · by_cases hle : s[j] ≤ s[i]
        · have hb := bad (by rw [k2]; intro hh; have := hh.1 rfl; omega)
          simp [h0, h1, h13, h14, h5, h17, h18, k2, xi, xj, w1, hle, hb]
        · simp [h0, h1, h13, h14, h5, h17, h18, k2, xi, xj, w1, hle]
          exact ⟨j - (i + 1), by omega, i + 1, by omega, rfl, rfl, by simpa using step (by rw [k2]; exact ⟨fun _ => by omega, fun h => by omega⟩)⟩
      · by_cases k1 : kindL d i j = 1
        · by_cases hle : s[j] < s[i]
          · have hb := bad (by rw [k1]; intro hh; have := hh.2 rfl; omega)
            simp [h0, h1, h13, h14, h5, h17, h18, k1, xi, xj, w1, hle, hb]
          · simp [h0, h1, h13, h14, h5, h17, h18, k1, xi, xj, w1, hle]
            exact ⟨j - (i + 1), by omega, i + 1, by omega, rfl, rfl, by simpa using step (by rw [k1]; exact ⟨fun h => by omega, fun _ => by omega⟩)⟩
        · simp [h0, h1, h13, h14, h5, h17, h18, k1, k2, w1]
          exact ⟨j - (i + 1), by omega, i + 1, by omega, rfl, rfl, by simpa using step ⟨fun h => absurd h k2, fun h => absurd h k1⟩⟩
    · have : i = j := by omega
      subst this
      have w1 := wrap_i64 (n := (i : Int) + 1) (by omega) (by omega)
      simp [h0, h1, h13, h14, h5, h17, h18, w1]
      refine ⟨d.length - (i + 1), by omega, i + 1, by omega, rfl, rfl, fun j' hj' => ?_⟩
      by_cases e : j' = i
      · subst e; simpa using hok2
      · simpa using hok j' (by omega)
  · have hy : tb (SatL d s) = true := tb_true ⟨by omega, fun j' hj' => hok j' (by omega)⟩
    simp [h0, h1, h13, h14, hlt, hy]

end Go.Proofs.Ytfcgnnafaoanfaa
