/-
  What the functions of this seat compute, for every input that fits.
-/
import Derived.Test.YtfcgnnafaoanfaaPbNorm
import Derived.Test.YtfcgnnafaoanfaaKA
set_option linter.unusedVariables false
set_option linter.unusedSimpArgs false
set_option maxRecDepth 20000
namespace Go.Proofs.Ytfcgnnafaoanfaa
open Go Go.Pb Go.RowKit

set_option maxHeartbeats 1000000 in
theorem refSatisfied_fn {d : List (List Int)} {s : List Int} {v u : PV} (hv : IsM d v) (hu : IsL s u) (hs : d.length < 1000000) : FnR Try.prog 12 [v, u] (vb (tb (SatL d s))) := by
  refine FnR.mk text12 (by simp) ?_
  have ld := SlOf.len hv Try.underlying22
  have ls := SlOf.len hu Try.underlying23
  rw [go_in, args_2]
  unfold ac12
  by_cases hl' : (s.length : Int) ≠ d.length
  · have hn : tb (SatL d s) = false := tb_false fun h => hl' (by rw [h.1])
    simp [ld, ls, hl', hn]
  have hl : (s.length : Int) = d.length := by omega
  simp [ld, ls, hl]
  refine loop_of (fun N T h => ∃ i, i ≤ d.length ∧ N = d.length - i ∧ h = ⟨0, []⟩ ∧ T 0 = v ∧ T 1 = u ∧ T 5 = vi i ∧ ∀ i', i' < i → ∀ j, j < d.length → i' < j → satK (kindL d i' j) (s.getD i' 0) (s.getD j 0)) d.length ⟨0, ?_⟩ ?_
  · simp
  rintro N T h ⟨i, hi, rfl, rfl, h0, h1, h5, hok⟩
  by_cases hlt : i < d.length
  · have w1 := wrap_i64 (n := (i : Int) + 1) (by omega) (by omega)
    simp [h0, h1, h5, hlt, ld, w1]
    refine loop_of (fun N T h => ∃ j, i < j ∧ j ≤ d.length ∧ N = d.length - j ∧ h = ⟨0, []⟩ ∧ T 0 = v ∧ T 1 = u ∧ T 5 = vi i ∧ T 6 = vi j ∧ ∀ j', j' < j → i < j' → satK (kindL d i j') (s.getD i 0) (s.getD j' 0)) (d.length - (i + 1)) ⟨i + 1, ?_⟩ ?_
    · simp [h0, h1, h5]
      exact ⟨by omega, fun j' h1 h2 => by omega⟩
    rintro N' T h ⟨j, hij, hj, rfl, rfl, h0, h1, h5, h6, hok2⟩
    by_cases hlt2 : j < d.length
    · simp [h0, h1, h5, h6, hlt2, ld]
      refine k_of (at_fn hv (by omega)) (by simp [closedL, closed, IsM.closed _ _ hv]) ?_
      have w1 := wrap_i64 (n := (j : Int) + 1) (by omega) (by omega)
      have xi := IsL.idx hu (k := i) (by omega)
      have xj := IsL.idx hu (k := j) (by omega)
      have gi : s.getD i 0 = s[i] := by rw [List.getD_eq_getElem?_getD, List.getElem?_eq_getElem (by omega)]; rfl
      have gj : s.getD j 0 = s[j] := by rw [List.getD_eq_getElem?_getD, List.getElem?_eq_getElem (by omega)]; rfl
      have step : satK (kindL d i j) s[i] s[j] → ∀ j', j' < j + 1 → i < j' → satK (kindL d i j') (s.getD i 0) (s.getD j' 0) := fun h j' hj' hi' => by
        by_cases e : j' = j
        · subst e; rw [gi, gj]; exact h
        · exact hok2 j' (by omega) hi'
      have bad : ¬satK (kindL d i j) s[i] s[j] → tb (SatL d s) = false := fun h => tb_false fun hh => h (by have := hh.2 j hlt2 i hij; rwa [gi, gj] at this)
      by_cases k2 : kindL d i j = 2
      · by_cases hle : s[j] ≤ s[i]
        · have hb := bad (by rw [k2]; intro hh; have := hh.1 rfl; omega)
          simp [h0, h1, h5, h6, k2, xi, xj, w1, hle, hb]
        · simp [h0, h1, h5, h6, k2, xi, xj, w1, hle]
          exact ⟨d.length - (j + 1), by omega, j + 1, by omega, by omega, rfl, rfl, by simpa using step (by rw [k2]; exact ⟨fun _ => by omega, fun h => by omega⟩)⟩
      · by_cases k1 : kindL d i j = 1
        · by_cases hle : s[j] < s[i]
          · have hb := bad (by rw [k1]; intro hh; have := hh.2 rfl; omega)
            simp [h0, h1, h5, h6, k1, xi, xj, w1, hle, hb]
          · simp [h0, h1, h5, h6, k1, xi, xj, w1, hle]
            exact ⟨d.length - (j + 1), by omega, j + 1, by omega, by omega, rfl, rfl, by simpa using step (by rw [k1]; exact ⟨fun h => by omega, fun _ => by omega⟩)⟩
        · simp [h0, h1, h5, h6, k1, k2, w1]
          exact ⟨d.length - (j + 1), by omega, j + 1, by omega, by omega, rfl, rfl, by simpa using step ⟨fun h => absurd h k2, fun h => absurd h k1⟩⟩
    · simp [h0, h1, h5, h6, hlt2, ld, w1]
      refine ⟨d.length - (i + 1), by omega, i + 1, by omega, rfl, rfl, fun i' hi' j' hj' hij' => ?_⟩
      by_cases e : i' = i
      · subst e; simpa using hok2 j' (by omega) hij'
      · simpa using hok i' (by omega) j' hj' hij'
  · have hy : tb (SatL d s) = true := tb_true ⟨by omega, fun j hj i' hi' => hok i' (by omega) j hj hi'⟩
    simp [h0, h1, h5, hlt, hy, ld]

/-! Which units follow which -/
theorem kind_cases (d : List (List Int)) (i j : Nat) : kindL d i j = 0 ∨ kindL d i j = 1 ∨ kindL d i j = 2 := by
  unfold kindL
  split
  · exact .inl rfl
  · split
    · exact .inl rfl
    · split
      · rename_i h; rcases h with h | h
        · exact .inr (.inl h)
        · exact .inr (.inr h)
      · exact .inl rfl
theorem kind_lt {d : List (List Int)} {i j : Nat} (h : kindL d i j ≠ 0) : i < j := by
  refine Nat.lt_of_not_le fun h' => h ?_
  unfold kindL
  rw [if_pos h']

inductive Rch (d : List (List Int)) (i : Nat) : Nat → Prop where
  | refl : Rch d i i
  | step {k j : Nat} : Rch d i k → k < j → kindL d k j ≠ 0 → Rch d i j
inductive Lat (d : List (List Int)) (i : Nat) : Nat → Prop where
  | first {k j : Nat} : Rch d i k → k < j → kindL d k j = 2 → Lat d i j
  | step {k j : Nat} : Lat d i k → k < j → kindL d k j ≠ 0 → Lat d i j
theorem Rch.le {d : List (List Int)} {i j : Nat} (h : Rch d i j) : i ≤ j := by
  induction h with
  | refl => exact Nat.le_refl _
  | step _ h _ ih => omega
theorem Lat.rch {d : List (List Int)} {i j : Nat} (h : Lat d i j) : Rch d i j ∧ i < j := by
  induction h with
  | first h h2 h3 => exact ⟨h.step h2 (by omega), by have := h.le; omega⟩
  | step _ h2 h3 ih => exact ⟨ih.1.step h2 h3, by have := ih.2; omega⟩
/-- Reached from below k. -/
def RchU (d : List (List Int)) (i j k : Nat) : Prop := ∃ m, m < k ∧ Rch d i m ∧ kindL d m j ≠ 0
def LatU (d : List (List Int)) (i j k : Nat) : Prop := ∃ m, m < k ∧ (Rch d i m ∧ kindL d m j = 2 ∨ Lat d i m ∧ kindL d m j ≠ 0)
theorem RchU.iff {d : List (List Int)} {i j : Nat} (h : i ≠ j) : Rch d i j ↔ RchU d i j j := by
  constructor
  · intro h'
    cases h' with
    | refl => exact absurd rfl h
    | step h1 h2 h3 => exact ⟨_, h2, h1, h3⟩
  · rintro ⟨m, h1, h2, h3⟩
    exact h2.step h1 h3
theorem LatU.iff {d : List (List Int)} {i j : Nat} : Lat d i j ↔ LatU d i j j := by
  constructor
  · intro h'
    cases h' with
    | first h1 h2 h3 => exact ⟨_, h2, .inl ⟨h1, h3⟩⟩
    | step h1 h2 h3 => exact ⟨_, h2, .inr ⟨h1, h3⟩⟩
  · rintro ⟨m, h1, h2 | h2⟩
    · exact .first h2.1 h1 h2.2
    · exact .step h2.1 h1 h2.2
theorem RchU.succ {d : List (List Int)} {i j k : Nat} : RchU d i j (k + 1) ↔ RchU d i j k ∨ (Rch d i k ∧ kindL d k j ≠ 0) := by
  constructor
  · rintro ⟨m, h1, h2⟩
    by_cases e : m = k
    · subst e; exact .inr h2
    · exact .inl ⟨m, by omega, h2⟩
  · rintro (⟨m, h1, h2⟩ | h)
    · exact ⟨m, by omega, h2⟩
    · exact ⟨k, by omega, h⟩
theorem LatU.succ {d : List (List Int)} {i j k : Nat} : LatU d i j (k + 1) ↔ LatU d i j k ∨ (Rch d i k ∧ kindL d k j = 2 ∨ Lat d i k ∧ kindL d k j ≠ 0) := by
  constructor
  · rintro ⟨m, h1, h2⟩
    by_cases e : m = k
    · subst e; exact .inr h2
    · exact .inl ⟨m, by omega, h2⟩
  · rintro (⟨m, h1, h2⟩ | h)
    · exact ⟨m, by omega, h2⟩
    · exact ⟨k, by omega, h⟩
/-- What stands in the two rows when the columns below j are done, and column j up to k. -/
def FInv (d : List (List Int)) (n i j k : Nat) (r o : Nat → Bool) : Prop :=
  (∀ m, m < j → r m = tb (Rch d i m) ∧ o m = tb (Lat d i m)) ∧ (∀ m, j < m → r m = decide (m = i) ∧ o m = false) ∧ r j = tb (i = j ∨ RchU d i j k) ∧ o j = tb (LatU d i j k)
theorem FInv.next {d : List (List Int)} {n i j : Nat} {r o : Nat → Bool} (h : FInv d n i j j r o) : FInv d n i (j + 1) 0 r o := by
  obtain ⟨h1, h2, h3, h4⟩ := h
  refine ⟨fun m hm => ?_, fun m hm => h2 m (by omega), ?_, ?_⟩
  · by_cases e : m = j
    · subst e
      rw [h3, h4, LatU.iff]
      refine ⟨?_, rfl⟩
      by_cases e : i = m
      · subst e; rw [tb_true (.inl rfl), tb_true .refl]
      · rw [RchU.iff e]; simp [e]
    · exact h1 m (by omega)
  · rw [(h2 (j + 1) (by omega)).1]
    by_cases e : j + 1 = i
    · subst e; simp [tb_true]
    · rw [tb_false]
      · simp [e]
      · rintro (h | ⟨m, hm, _⟩)
        · exact e h.symm
        · omega
  · rw [(h2 (j + 1) (by omega)).2, tb_false]
    rintro ⟨m, hm, _⟩; omega
theorem FInv.step {d : List (List Int)} {n i j k : Nat} {r o r' o' : Nat → Bool} (h : FInv d n i j k r o) (hr : ∀ m, m ≠ j → r' m = r m) (ho : ∀ m, m ≠ j → o' m = o m)
    (hj : r' j = (r j || (r k && decide (kindL d k j ≠ 0)))) (hoj : o' j = (o j || (r k && decide (kindL d k j = 2)) || (o k && decide (kindL d k j ≠ 0)))) (hk : k < j) : FInv d n i j (k + 1) r' o' := by
  obtain ⟨h1, h2, h3, h4⟩ := h
  refine ⟨fun m hm => ?_, fun m hm => ?_, ?_, ?_⟩
  · rw [hr m (by omega), ho m (by omega)]; exact h1 m hm
  · rw [hr m (by omega), ho m (by omega)]; exact h2 m hm
  · rw [hj, h3, (h1 k hk).1, Bool.eq_iff_iff]
    simp only [Bool.or_eq_true, Bool.and_eq_true, tb_iff, decide_eq_true_eq, RchU.succ]
    exact ⟨fun h => by rcases h with (h | h) | h <;> simp [h], fun h => by rcases h with h | h | h <;> simp [h]⟩
  · rw [hoj, h4, (h1 k hk).1, (h1 k hk).2, Bool.eq_iff_iff]
    simp only [Bool.or_eq_true, Bool.and_eq_true, tb_iff, decide_eq_true_eq, LatU.succ]
    exact ⟨fun h => by rcases h with (h | h) | h <;> simp [h], fun h => by rcases h with h | h | h <;> simp [h]⟩
theorem FInv.at0 {d : List (List Int)} {n i j k : Nat} {r o : Nat → Bool} (h : FInv d n i j k r o) (hk : k < j) : r k = tb (Rch d i k) ∧ o k = tb (Lat d i k) := h.1 k hk

/-- A row of the result. -/
noncomputable def laterRow (d : List (List Int)) (i : Nat) : PV := .fs false (tab d.length fun j => vb (tb (Lat d i j)))

set_option maxHeartbeats 2000000 in
theorem refFollows_fn {d : List (List Int)} {v : PV} (hv : IsM d v) (hs : d.length < 1000000) {i : Nat} (hi : i < d.length) : FnR Try.prog 18 [v, vi i] (laterRow d i) := by
  refine FnR.mk text18 (by simp) ?_
  have ld := SlOf.len hv Try.underlying22
  rw [go_in, args_2]
  unfold ac18
  have mk := fun h => mkSlice_t (h := h) (e := 4) (v := vb false) (k := .i64) (k' := .i64) (fits_small (m := d.length) (bytes := 1) (by omega) (by omega))
  have w1 := wrap_i64 (n := (i : Int) + 1) (by omega) (by omega)
  have xi := fun id => idx_os (id := id) (ver := id) (off := 0) (n := d.length) (j := i) (k := .i64) hi 1
  have st := fun c => store_t (h := ⟨2, [.cells 0 4 true (tab d.length fun _ => vb false), .cells 1 4 true (tab d.length fun _ => vb false)]⟩) (id := 0) (off := i) (c := vb c) rfl hi rfl
  simp at xi st
  simp [ld, mk, Value.cells, xi, st, w1]
  refine rounds (fun N T h => ∃ j r o, i < j ∧ j ≤ d.length ∧ N = d.length - j ∧ FInv d d.length i j 0 r o ∧ h = ⟨2, [.cells 0 4 true (tab d.length fun m => vb (r m)), .cells 1 4 true (tab d.length fun m => vb (o m))]⟩ ∧ T 0 = v ∧ T 1 = vi i ∧ T 5 = .os 0 0 0 d.length ∧ T 6 = .os 1 1 0 d.length ∧ T 7 = vi j) (d.length - (i + 1)) ⟨i + 1, updF (fun _ => false) i true, fun _ => false, ?_⟩ ?_
  · simp [updF_comp]
    refine ⟨by omega, ⟨fun m hm => ?_, fun m hm => ?_, ?_, ?_⟩⟩
    · by_cases e : m = i
      · subst e; rw [updF_eq, tb_true .refl, tb_false]
        · simp
        · intro h; have := h.rch.2; omega
      · rw [updF_ne e, tb_false, tb_false]
        · simp
        · intro h; have := h.rch.2; omega
        · intro h; have := h.le; omega
    · rw [updF_ne (by omega)]; simp; omega
    · rw [updF_ne (by omega), tb_false]
      rintro (h | ⟨m, h, _⟩) <;> omega
    · rw [tb_false]
      rintro ⟨m, h, _⟩; omega
  rintro N R hR T h ⟨j, r, o, hij, hj, rfl, hF, rfl, h0, h1, h5, h6, h7⟩
  by_cases hlt : j < d.length
  · simp [h0, h1, h5, h6, h7, hlt, ld]
    refine rounds (fun N T h => ∃ k r o, i ≤ k ∧ k ≤ j ∧ N = j - k ∧ FInv d d.length i j k r o ∧ h = ⟨2, [.cells 0 4 true (tab d.length fun m => vb (r m)), .cells 1 4 true (tab d.length fun m => vb (o m))]⟩ ∧ T 0 = v ∧ T 1 = vi i ∧ T 5 = .os 0 0 0 d.length ∧ T 6 = .os 1 1 0 d.length ∧ T 7 = vi j ∧ T 8 = vi k) (j - i) ⟨i, r, o, ?_⟩ ?_
    · simp [h0, h1, h5, h6, h7]
      refine ⟨by omega, hF.1, hF.2.1, ?_, ?_⟩
      · rw [hF.2.2.1]
        congr 1
        apply propext
        constructor
        · rintro (h | ⟨m, h, _⟩)
          · exact .inl h
          · omega
        · rintro (h | ⟨m, h, h2, _⟩)
          · exact .inl h
          · have := h2.le; omega
      · rw [hF.2.2.2]
        congr 1
        apply propext
        constructor
        · rintro ⟨m, h, _⟩; omega
        · rintro ⟨m, h, h2 | h2⟩
          · have := h2.1.le; omega
          · have := h2.1.rch.2; omega
    rintro N' R' hR' T h ⟨k, r, o, hik, hk, rfl, hF, rfl, h0, h1, h5, h6, h7, h8⟩
    have w2 := wrap_i64 (n := (k : Int) + 1) (by omega) (by omega)
    have w3 := wrap_i64 (n := (j : Int) + 1) (by omega) (by omega)
    by_cases hlt2 : k < j
    · have hkn : k < d.length := by omega
      have hca : closedL [v, vi k, vi j] = true := by simp [closedL, closed, IsM.closed _ _ hv]
      have fin : ∀ r' o', (∀ m, m ≠ j → r' m = r m) → (∀ m, m ≠ j → o' m = o m) → r' j = (r j || (r k && decide (kindL d k j ≠ 0))) → o' j = (o j || (r k && decide (kindL d k j = 2)) || (o k && decide (kindL d k j ≠ 0))) → FInv d d.length i j (k + 1) r' o' := fun r' o' a b c e => hF.step a b c e hlt2
      have hko : o k = true → r k = true := fun h => by
        rw [(hF.at0 hlt2).2, tb_iff] at h
        rw [(hF.at0 hlt2).1, tb_iff]
        exact h.rch.1
      cases hrk : r k with
      | false =>
        have hok : o k = false := by cases h : o k with | false => rfl | true => rw [hko h] at hrk; cases hrk
        simp [h0, h1, h5, h6, h7, h8, hlt, hlt2, hkn, hrk, w2]
        exact hR' (j - (k + 1)) _ _ (by omega) ⟨k + 1, r, o, by omega, by omega, rfl, fin r o (fun _ _ => rfl) (fun _ _ => rfl) (by simp [hrk]) (by simp [hrk, hok]), rfl, by simp [h0, h1, h5, h6, h7]⟩
      | true =>
        simp [h0, h1, h5, h6, h7, h8, hlt, hlt2, hkn, hrk, w2]
        refine k_of (at_fn hv hkn) hca ?_
        by_cases k0 : kindL d k j = 0
        · simp [h0, h1, h5, h6, h7, h8, hlt, hlt2, hkn, hrk, w2, k0]
          exact hR' (j - (k + 1)) _ _ (by omega) ⟨k + 1, r, o, by omega, by omega, rfl, fin r o (fun _ _ => rfl) (fun _ _ => rfl) (by simp [hrk, k0]) (by simp [hrk, k0]), rfl, by simp [h0, h1, h5, h6, h7]⟩
        · have key : ∀ c, c = (o j || decide (kindL d k j = 2) || o k) → FInv d d.length i j (k + 1) (updF r j true) (updF o j c) := fun c hc =>
            fin _ _ (fun m hm => updF_ne hm) (fun m hm => updF_ne hm) (by simp [updF_eq, hrk, k0]) (by simp [updF_eq, hrk, k0, hc])
          cases hoj : o j with
          | true =>
            simp [h0, h1, h5, h6, h7, h8, hlt, hlt2, hkn, hrk, w2, k0, hoj]
            exact hR' (j - (k + 1)) _ _ (by omega) ⟨k + 1, _, _, by omega, by omega, rfl, key true (by simp [hoj]), by simp [updF_comp], by simp [h0, h1, h5, h6, h7]⟩
          | false =>
            cases hok : o k with
            | true =>
              simp [h0, h1, h5, h6, h7, h8, hlt, hlt2, hkn, hrk, w2, k0, hoj, hok]
              exact hR' (j - (k + 1)) _ _ (by omega) ⟨k + 1, _, _, by omega, by omega, rfl, key true (by simp [hok]), by simp [updF_comp], by simp [h0, h1, h5, h6, h7]⟩
            | false =>
              simp [h0, h1, h5, h6, h7, h8, hlt, hlt2, hkn, hrk, w2, k0, hoj, hok]
              refine k_of (at_fn hv hkn) hca ?_
              simp [h0, h1, h5, h6, h7, h8, hlt, hlt2, hkn, hrk, w2, k0, hoj, hok]
              exact hR' (j - (k + 1)) _ _ (by omega) ⟨k + 1, _, _, by omega, by omega, rfl, key _ rfl, by simp [updF_comp, hoj, hok], by simp [h0, h1, h5, h6, h7]⟩
    · have : k = j := by omega
      subst this
      simp [h0, h1, h5, h6, h7, h8, hlt, hlt2, w2]
      exact hR (d.length - (k + 1)) _ _ (by omega) ⟨k + 1, r, o, by omega, by omega, rfl, hF.next, rfl, by simp [h0, h1, h5, h6]⟩
  · have : j = d.length := by omega
    subst this
    simp [h0, h1, h5, h6, h7, ld]
    exact deep_tab rfl (fun m hm => by rw [(hF.1 m hm).2]; exact sc_deep) (fun _ _ => rfl) (fun _ _ => rfl)

end Go.Proofs.Ytfcgnnafaoanfaa
