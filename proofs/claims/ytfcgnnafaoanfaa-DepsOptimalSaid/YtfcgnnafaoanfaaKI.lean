/-
  The law on optimal stages, over the plain programs.
-/
import Derived.Test.YtfcgnnafaoanfaaPbP
import Derived.Test.YtfcgnnafaoanfaaKNDef
set_option linter.unusedVariables false
set_option linter.unusedSimpArgs false
namespace Go.Proofs.Ytfcgnnafaoanfaa.N
open Go Go.Pb

theorem set_ne {o : List Int} {j k : Nat} {x : Int} (h : k ≠ j) : (o.set j x).getD k 0 = o.getD k 0 := by
  simp [List.getD_eq_getElem?_getD, List.getElem?_set_ne (Ne.symm h)]
theorem set_eq {o : List Int} {j : Nat} {x : Int} (h : j < o.length) : (o.set j x).getD j 0 = x := by
  simp [List.getD_eq_getElem?_getD, h]
theorem estep_ne {d : List (List Int)} {j i k : Nat} {o : List Int} (h : k ≠ j) : (estep d j i o).getD k 0 = o.getD k 0 := by
  unfold estep
  split
  · exact set_ne h
  · split
    · exact set_ne h
    · rfl
theorem estep_len {d : List (List Int)} {j i : Nat} {o : List Int} : (estep d j i o).length = o.length := by
  unfold estep
  split
  · simp
  · split <;> simp
theorem erow_len {d : List (List Int)} {j : Nat} {o : List Int} : ∀ i, (erow d j o i).length = o.length
  | 0 => rfl
  | i + 1 => by rw [erow, estep_len, erow_len i]
theorem erow_ne {d : List (List Int)} {j k : Nat} {o : List Int} (h : k ≠ j) : ∀ i, (erow d j o i).getD k 0 = o.getD k 0
  | 0 => rfl
  | i + 1 => by rw [erow, estep_ne h, erow_ne h i]
theorem erow_at {d : List (List Int)} {j : Nat} {o : List Int} (hj : j < o.length) : ∀ i, i ≤ j →
    o.getD j 0 ≤ (erow d j o i).getD j 0 ∧ (∀ k, k < i → (kindL d k j = 2 → o.getD k 0 + 1 ≤ (erow d j o i).getD j 0) ∧ (kindL d k j = 1 → o.getD k 0 ≤ (erow d j o i).getD j 0)) ∧
    ((erow d j o i).getD j 0 = o.getD j 0 ∨ ∃ k, k < i ∧ (kindL d k j = 2 ∧ (erow d j o i).getD j 0 = o.getD k 0 + 1 ∨ kindL d k j = 1 ∧ (erow d j o i).getD j 0 = o.getD k 0))
  | 0, _ => ⟨Int.le_refl _, fun k hk => by omega, .inl rfl⟩
  | i + 1, hi => by
    obtain ⟨h1, h2, h3⟩ := erow_at (d := d) hj i (by omega)
    have hl : j < (erow d j o i).length := by rw [erow_len]; exact hj
    have hk : (erow d j o i).getD i 0 = o.getD i 0 := erow_ne (by omega) i
    have key : ∀ c : Int, (erow d j o (i + 1)).getD j 0 = max ((erow d j o i).getD j 0) c → (kindL d i j = 2 ∧ c = o.getD i 0 + 1 ∨ kindL d i j = 1 ∧ c = o.getD i 0) →
        o.getD j 0 ≤ (erow d j o (i + 1)).getD j 0 ∧ (∀ k, k < i + 1 → (kindL d k j = 2 → o.getD k 0 + 1 ≤ (erow d j o (i + 1)).getD j 0) ∧ (kindL d k j = 1 → o.getD k 0 ≤ (erow d j o (i + 1)).getD j 0)) ∧
        ((erow d j o (i + 1)).getD j 0 = o.getD j 0 ∨ ∃ k, k < i + 1 ∧ (kindL d k j = 2 ∧ (erow d j o (i + 1)).getD j 0 = o.getD k 0 + 1 ∨ kindL d k j = 1 ∧ (erow d j o (i + 1)).getD j 0 = o.getD k 0)) := by
      intro c hc hd
      refine ⟨by clear h2 h3; omega, fun k hk => ?_, ?_⟩
      · by_cases e : k = i
        · subst e; clear h2 h3; constructor <;> intro h <;> omega
        · have := h2 k (by omega); constructor <;> intro h
          · have := this.1 h; omega
          · have := this.2 h; omega
      · by_cases hm : (erow d j o i).getD j 0 ≤ c
        · right
          refine ⟨i, by omega, ?_⟩
          rcases hd with ⟨h4, h5⟩ | ⟨h4, h5⟩
          · left; exact ⟨h4, by omega⟩
          · right; exact ⟨h4, by omega⟩
        · rw [show (erow d j o (i + 1)).getD j 0 = (erow d j o i).getD j 0 by omega]
          rcases h3 with h3 | ⟨k, h4, h5⟩
          · exact .inl h3
          · exact .inr ⟨k, by omega, h5⟩
    by_cases h4 : kindL d i j = 2
    · exact key (o.getD i 0 + 1) (by rw [erow, estep, if_pos h4, set_eq hl, hk]) (.inl ⟨h4, rfl⟩)
    · by_cases h5 : kindL d i j = 1
      · exact key (o.getD i 0) (by rw [erow, estep, if_neg h4, if_pos h5, set_eq hl, hk]) (.inr ⟨h5, rfl⟩)
      · rw [show erow d j o (i + 1) = erow d j o i by rw [erow, estep, if_neg h4, if_neg h5]]
        refine ⟨h1, fun k hk => ?_, ?_⟩
        · by_cases e : k = i
          · subst e; exact ⟨fun h => absurd h h4, fun h => absurd h h5⟩
          · exact h2 k (by omega)
        · rcases h3 with h3 | ⟨k, h6, h7⟩
          · exact .inl h3
          · exact .inr ⟨k, by omega, h7⟩
theorem eall_fix {d : List (List Int)} {j : Nat} : ∀ m, j < m → (eall d m).getD j 0 = (eall d (j + 1)).getD j 0
  | m + 1, h => by
    by_cases e : j = m
    · rw [e]
    · rw [eall, erow_ne e, eall_fix m (by omega)]
theorem eall_zero {d : List (List Int)} {j : Nat} : ∀ m, m ≤ j → (eall d m).getD j 0 = 0
  | 0, _ => by
    simp only [eall, List.getD_eq_getElem?_getD, List.getElem?_replicate]
    split <;> rfl
  | m + 1, h => by rw [eall, erow_ne (by omega), eall_zero m (by omega)]
theorem e_spec {d : List (List Int)} {j : Nat} (hj : j < d.length) :
    0 ≤ (eall d d.length).getD j 0 ∧ (∀ k, k < j → (kindL d k j = 2 → (eall d d.length).getD k 0 + 1 ≤ (eall d d.length).getD j 0) ∧ (kindL d k j = 1 → (eall d d.length).getD k 0 ≤ (eall d d.length).getD j 0)) ∧
    ((eall d d.length).getD j 0 = 0 ∨ ∃ k, k < j ∧ (kindL d k j = 2 ∧ (eall d d.length).getD j 0 = (eall d d.length).getD k 0 + 1 ∨ kindL d k j = 1 ∧ (eall d d.length).getD j 0 = (eall d d.length).getD k 0)) := by
  have hl : j < (eall d j).length := by rw [(EB.all (d := d) j (by omega)).1]; exact hj
  obtain ⟨h1, h2, h3⟩ := erow_at (d := d) hl j (Nat.le_refl j)
  have e0 : (eall d d.length).getD j 0 = (erow d j (eall d j) j).getD j 0 := by rw [eall_fix d.length hj, eall]
  have e1 : ∀ k, k < j → (eall d j).getD k 0 = (eall d d.length).getD k 0 := fun k hk => by rw [eall_fix j hk, eall_fix d.length (by omega)]
  rw [eall_zero j (Nat.le_refl j)] at h1 h3
  rw [e0]
  refine ⟨h1, fun k hk => by rw [← e1 k hk]; exact h2 k hk, ?_⟩
  rcases h3 with h3 | ⟨k, h4, h5⟩
  · exact .inl h3
  · exact .inr ⟨k, h4, by rw [← e1 k h4]; exact h5⟩
theorem e_sat (d : List (List Int)) : SatL d (eall d d.length) := by
  refine ⟨(EB.all d.length (Nat.le_refl _)).1, fun j hj i hi => ?_⟩
  have := (e_spec hj).2.1 i hi
  exact ⟨fun h => by have := this.1 h; omega, this.2⟩
theorem sat_step {d : List (List Int)} {s : List Int} (h : SatL d s) {i j : Nat} (hij : i < j) (hj : j < d.length) (hk : kindL d i j ≠ 0) : s.getD i 0 ≤ s.getD j 0 := by
  have h1 := h.2 j hj i hij
  rcases kind_cases d i j with h2 | h2 | h2
  · exact absurd h2 hk
  · exact h1.2 h2
  · have := h1.1 h2; omega
theorem sat_rch {d : List (List Int)} {s : List Int} (h : SatL d s) {i j : Nat} (hr : Rch d i j) (hj : j < d.length) : s.getD i 0 ≤ s.getD j 0 := by
  induction hr with
  | refl => exact Int.le_refl _
  | step _ h2 h3 ih => have := ih (by omega); have := sat_step h h2 hj h3; omega
theorem sat_lat {d : List (List Int)} {s : List Int} (h : SatL d s) {i j : Nat} (hr : Lat d i j) (hj : j < d.length) : s.getD i 0 + 1 ≤ s.getD j 0 := by
  induction hr with
  | first h1 h2 h3 => have := sat_rch h h1 (by omega); have := (h.2 _ hj _ h2).1 h3; omega
  | step _ h2 h3 ih => have := ih (by omega); have := sat_step h h2 hj h3; omega
theorem e_from {d : List (List Int)} : ∀ (b j : Nat), j < b → j < d.length → 1 ≤ (eall d d.length).getD j 0 → ∃ m, m < j ∧ Lat d m j ∧ (eall d d.length).getD m 0 + 1 = (eall d d.length).getD j 0
  | b + 1, j, hb, hj, h1 => by
    rcases (e_spec hj).2.2 with h2 | ⟨k, h3, h4 | h4⟩
    · omega
    · exact ⟨k, h3, .first .refl h3 h4.1, by omega⟩
    · obtain ⟨m, h5, h6, h7⟩ := e_from (d := d) b k (by omega) (by omega) (by omega)
      exact ⟨m, by omega, .step h6 h3 (by omega), by omega⟩
theorem sz_up {d : List (List Int)} {sz : Nat → Int} (h : SzP d d.length 0 sz) : ∀ (k j : Nat), j < d.length → (eall d d.length).getD j 0 = k → ∃ i, i < d.length ∧ (k : Int) + sz j ≤ sz i
  | 0, j, hj, _ => ⟨j, hj, by omega⟩
  | k + 1, j, hj, he => by
    obtain ⟨m, h1, h2, h3⟩ := e_from (j + 1) j (by omega) hj (by omega)
    obtain ⟨i, h4, h5⟩ := sz_up h k m (by omega) (by omega)
    have := (h m (by omega) (by omega)).2.1 j hj h2
    exact ⟨i, h4, by omega⟩
theorem sz_down {d : List (List Int)} {sz : Nat → Int} (h : SzP d d.length 0 sz) {mx : Int} (hm : ∀ j, j < d.length → (eall d d.length).getD j 0 ≤ mx) : ∀ (k i : Nat), d.length - i ≤ k → i < d.length → (eall d d.length).getD i 0 + sz i ≤ mx + 1
  | 0, i, hk, hi => by omega
  | k + 1, i, hk, hi => by
    rcases (h i (by omega) hi).2.2 with h1 | ⟨j, h1, h2, h3⟩
    · have := hm i hi; omega
    · have h4 := sat_lat (e_sat d) h2 h1
      have h6 : i < j := (Lat.rch h2).2
      have h5 := sz_down h hm k j (by omega) h1
      omega
theorem chn_len {d : List (List Int)} {n : Nat} {sz : Nat → Int} (hs : ∀ i, i < n → 1 ≤ sz i) {a : Nat} {l : List Int} (ha : a < n) (h : Chn d n sz a l) : (l.length : Int) = sz a := by
  induction h with
  | last h => have := hs _ ha; simp; omega
  | more h1 h2 h3 h4 h5 h6 ih => have := ih h2; simp only [List.length_cons]; omega
theorem chn_step {d : List (List Int)} {n : Nat} {sz : Nat → Int} {a : Nat} {l : List Int} (ha : a < n) (h : Chn d n sz a l) : ∀ i, i + 1 < l.length → ∃ x y : Nat, x < n ∧ y < n ∧ l.getD i 0 = x ∧ l.getD (i + 1) 0 = y ∧ Lat d x y := by
  induction h with
  | last h => intro i hi; simp at hi
  | @more a b l h1 h2 h3 h4 h5 h6 ih =>
    intro i hi
    cases i with
    | zero =>
      obtain ⟨k, hk⟩ := Chn.head h6
      exact ⟨a, b, ha, h2, by simp, by simp [hk], h3⟩
    | succ i =>
      obtain ⟨x, y, g1, g2, g3, g4, g5⟩ := ih h2 i (by simp only [List.length_cons] at hi; omega)
      exact ⟨x, y, g1, g2, by simpa using g3, by simpa using g4, g5⟩
theorem crit_is (d : List (List Int)) (hs : d.length < 1000000) : CPath d (deps_CriticalPath d) := by
  have hv : ∃ v, IsM d v := by
    refine ⟨.fs true (d.map fun l => .fs true (l.map vi)), _, .inr ⟨true, rfl⟩, ?_⟩
    clear hs
    induction d with
    | nil => trivial
    | cons a d ih => exact ⟨ints_isL a true, ih⟩
  obtain ⟨v, hv⟩ := hv
  obtain ⟨r, _, p, _, h⟩ := CriticalPath_fn hv hs
  rw [crit_eq h]
  exact h
theorem ixG (l : List Int) (i : Int) : ix l i = l.getD i.toNat 0 := rfl

theorem L1_spec {s : List Int} {K : Int → Bool} (hp : ∀ j : Nat, j < s.length → 0 ≤ s.getD j 0) : ∀ (m : Nat) (x i : Int), m = Int.toNat ((s.length : Int) - i) → 0 ≤ i → (∀ mx : Int, x ≤ mx → (∀ j : Nat, i ≤ j → j < s.length → s.getD j 0 ≤ mx) → (mx = x ∨ ∃ j : Nat, i ≤ j ∧ j < s.length ∧ s.getD j 0 = mx) → K mx = true) → law33_DepsOptimal_L1 s K m x i = true
  | 0, x, i, hm, h0, hK => hK x (Int.le_refl _) (fun j h1 h2 => by omega) (.inl rfl)
  | m + 1, x, i, hm, h0, hK => by
    simp only [law33_DepsOptimal_L1]
    have hi : 0 ≤ ix s i := hp i.toNat (by omega)
    have hx0 : ix s i = s.getD i.toNat 0 := rfl
    rw [if_neg (by simp only [decide_eq_true_eq]; omega)]
    refine L1_spec hp m _ (i + 1) (by omega) (by omega) fun mx h1 h2 h3 => hK mx (by omega) (fun j h4 h5 => ?_) ?_
    · by_cases e : (j : Int) = i
      · rw [hx0, show i.toNat = j by omega] at h1; omega
      · exact h2 j (by omega) h5
    · rcases h3 with h3 | ⟨j, h4, h5, h6⟩
      · by_cases hx : x ≤ ix s i
        · exact .inr ⟨i.toNat, by omega, by omega, by omega⟩
        · exact .inl (by omega)
      · exact .inr ⟨j, by omega, h5, h6⟩
theorem L2_spec {d : List (List Int)} {s p : List Int} {K : Unit → Bool} (hs : SatL d s) (hp : CPath d p) (hpl : p.length ≤ d.length) (hd : d.length ≤ 14) (hin : ∀ i : Int, 0 ≤ i → i < p.length → 0 ≤ ix p i ∧ ix p i < d.length) : ∀ (m : Nat) (i : Int), m = Int.toNat ((p.length : Int) - i) → 0 ≤ i → law33_DepsOptimal_L2 d s p K m i = K ()
  | 0, i, _, _ => rfl
  | m + 1, i, hm, h0 => by
    simp only [law33_DepsOptimal_L2]
    have h1 := hin i h0 (by omega)
    rw [if_neg, L2_spec hs hp hpl hd hin m (i + 1) (by omega) (by omega)]
    simp only [Bool.or_eq_true, Bool.and_eq_true, decide_eq_true_eq, not_or, not_and]
    refine ⟨⟨by omega, by omega⟩, fun hi => ?_⟩
    rw [wr_of (by omega) (by omega)]
    rcases hp with ⟨h2, h3⟩ | ⟨sz, f, h2, h3, h4⟩
    · rw [h3] at hm; simp at hm; omega
    · obtain ⟨x, y, g1, g2, g3, g4, g5⟩ := chn_step h3.2.1 h4 (i - 1).toNat (by omega)
      rw [show (i - 1).toNat + 1 = i.toNat by omega] at g4
      have g6 := sat_lat hs g5 g2
      have e1 : ix p i = y := g4
      have e2 : ix p (i - 1) = x := g3
      rw [e1, e2, ixG, ixG]
      simp only [Int.toNat_natCast]
      omega
theorem L3_spec {s : List Int} {K : Unit → Bool} : ∀ (m : Nat) (i : Int), m = Int.toNat ((s.length : Int) - i) → 0 ≤ i → ((∀ j : Nat, i ≤ j → j < s.length → 0 ≤ s.getD j 0) → K () = true) → law33_DepsOptimal_L3 s K m i = true
  | 0, i, hm, h0, hK => hK fun j h1 h2 => by omega
  | m + 1, i, hm, h0, hK => by
    simp only [law33_DepsOptimal_L3, LET]
    have hx0 : ix s i = s.getD i.toNat 0 := rfl
    by_cases h : ix s i < 0
    · rw [if_pos (by simpa using h)]; rfl
    · rw [if_neg (by simpa using h)]
      refine L3_spec m (i + 1) (by omega) (by omega) fun h1 => hK fun j h2 h3 => ?_
      by_cases e : (j : Int) = i
      · rw [show j = i.toNat by omega]; omega
      · exact h1 j (by omega) h3
theorem L4_spec {s e : List Int} {K : Unit → Bool} (h : ∀ j : Nat, j < s.length → e.getD j 0 ≤ s.getD j 0) : ∀ (m : Nat) (i : Int), m = Int.toNat ((s.length : Int) - i) → 0 ≤ i → law33_DepsOptimal_L4 s e K m i = K ()
  | 0, i, hm, h0 => rfl
  | m + 1, i, hm, h0 => by
    simp only [law33_DepsOptimal_L4]
    have : ix e i ≤ ix s i := h i.toNat (by omega)
    rw [if_neg (by simp only [decide_eq_true_eq]; omega), L4_spec h m (i + 1) (by omega) (by omega)]
theorem least {d : List (List Int)} {s : List Int} (hs : SatL d s) (h0 : ∀ j : Nat, j < d.length → 0 ≤ s.getD j 0) : ∀ (b j : Nat), j < b → j < d.length → (eall d d.length).getD j 0 ≤ s.getD j 0
  | b + 1, j, hb, hj => by
    rcases (e_spec hj).2.2 with h2 | ⟨k, h3, h4 | h4⟩
    · rw [h2]; exact h0 j hj
    · have := least hs h0 b k (by omega) (by omega)
      have := (hs.2 j hj k h3).1 h4.1
      omega
    · have := least hs h0 b k (by omega) (by omega)
      have := (hs.2 j hj k h3).2 h4.1
      omega
theorem DepsOptimal_law (d : List (List Int)) (stage : List Int) : law33_DepsOptimal d stage = true := by
  simp only [law33_DepsOptimal, LET]
  split
  · rfl
  · rename_i hc
    simp only [Bool.or_eq_true, Bool.not_eq_true', decide_eq_true_eq, not_or, Bool.not_eq_false] at hc
    have hd := small_len rfl hc.1
    have hl : (deps_EarliestStages d).length = d.length := (EB.all (d := d) d.length (Nat.le_refl _)).1
    have hl' : (eall d d.length).length = d.length := hl
    have hsat : deps_Satisfied d (deps_EarliestStages d) = true := tb_true (e_sat d)
    rw [if_neg (by simp [hl, hsat])]
    have hcp := crit_is d (by omega)
    have hpl := crit_len (d := d) rfl
    refine L1_spec (fun j hj => (e_spec (hl ▸ hj)).1) _ (-1) 0 rfl (by omega) fun mx h1 h2 h3 => ?_
    have hlen : ((deps_CriticalPath d).length : Int) = mx + 1 := by
      rcases hcp with ⟨g1, g2⟩ | ⟨sz, f, g1, g2, g3⟩
      · rw [g2]
        rcases h3 with h3 | ⟨j, h4, h5, h6⟩
        · simp [h3]
        · omega
      · have hsz : ∀ i, i < d.length → 1 ≤ sz i := fun i hi => (g1 i (by omega) hi).1.1
        rw [chn_len hsz g2.2.1 g3]
        have hf := g2.2.1
        have a1 := sz_down g1 (fun j hj => h2 j (by omega) (by omega)) d.length f (by omega) hf
        have a2 := (e_spec hf).1
        rcases h3 with h3 | ⟨j, h4, h5, h6⟩
        · have := h2 f (by omega) (by omega)
          change (eall d d.length).getD f 0 ≤ mx at this
          omega
        · have h6 : (eall d d.length).getD j 0 = mx := h6
          have a3 := (e_spec (d := d) (j := j) (by omega)).1
          obtain ⟨i, b1, b2⟩ := sz_up g1 mx.toNat j (by omega) (by omega)
          have b3 := g2.2.2.1 i (by omega) b1
          have b4 := hsz j (by omega)
          omega
    rw [wr_of (by omega) (by omega), if_neg (by simp [hlen])]
    cases hst : deps_Satisfied d stage with
    | false => rfl
    | true =>
      have hS : SatL d stage := tb_iff.1 hst
      simp only [Bool.not_true, Bool.false_eq_true, if_false]
      rw [if_neg (by simp [hS.1]), L2_spec hS hcp hpl hd (fun i i0 i1 => crit_in rfl i0 i1) _ 0 rfl (by omega)]
      refine L3_spec _ 0 rfl (by omega) fun h0 => ?_
      have hs1 := hS.1
      exact L4_spec (s := stage) (e := deps_EarliestStages d) (K := fun _ => law33_works) (fun j hj => least hS (fun j hj => h0 j (by omega) (by omega)) (j + 1) j (by omega) (by omega)) _ 0 rfl (by omega)
end Go.Proofs.Ytfcgnnafaoanfaa.N
