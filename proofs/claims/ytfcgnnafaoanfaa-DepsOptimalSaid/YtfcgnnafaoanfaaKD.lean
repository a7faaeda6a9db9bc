/-
  What the functions of this seat compute, for every input that fits.
-/
import Derived.Test.YtfcgnnafaoanfaaPbEx
import Derived.Test.YtfcgnnafaoanfaaKC
set_option linter.unusedVariables false
set_option linter.unusedSimpArgs false
set_option maxRecDepth 20000
namespace Go.Proofs.Ytfcgnnafaoanfaa
open Go Go.Pb Go.RowKit

/-- How long the longest list from each unit is. -/
def SzP (d : List (List Int)) (n m : Nat) (sz : Nat → Int) : Prop :=
  ∀ i, m ≤ i → i < n → (1 ≤ sz i ∧ sz i ≤ n - i) ∧ (∀ j, j < n → Lat d i j → sz j + 1 ≤ sz i) ∧ (sz i = 1 ∨ ∃ j, j < n ∧ Lat d i j ∧ sz i = sz j + 1)
def FirstP (n m : Nat) (sz : Nat → Int) (f : Nat) : Prop := m ≤ f ∧ f < n ∧ (∀ i, m ≤ i → i < n → sz i ≤ sz f) ∧ ∀ i, m ≤ i → i < f → sz i < sz f
inductive Chn (d : List (List Int)) (n : Nat) (sz : Nat → Int) : Nat → List Int → Prop where
  | last {a : Nat} : sz a ≤ 1 → Chn d n sz a [(a : Int)]
  | more {a b : Nat} {l : List Int} : 1 < sz a → b < n → Lat d a b → sz b + 1 = sz a → (∀ j, j < b → Lat d a j → ¬sz j + 1 = sz a) → Chn d n sz b l → Chn d n sz a ((a : Int) :: l)
def CPath (d : List (List Int)) (p : List Int) : Prop := (d.length = 0 ∧ p = []) ∨ ∃ sz f, SzP d d.length 0 sz ∧ FirstP d.length 0 sz f ∧ Chn d d.length sz f p

theorem IsSl.ints {r : PV} {l : List Int} (h : IsSl r (l.map vi)) : IsL l r := by
  refine ⟨_, h, ?_⟩
  clear h
  induction l with
  | nil => trivial
  | cons a l ih => exact ⟨rfl, ih⟩

set_option maxHeartbeats 4000000 in
theorem CriticalPath_fn {d : List (List Int)} {v : PV} (hv : IsM d v) (hs : d.length < 1000000) : ∃ r, FnR Try.prog 13 [v] r ∧ ∃ p, IsL p r ∧ CPath d p := by
  refine FnR.mkE text13 _ (by simp) ?_
  have ld := SlOf.len hv Try.underlying22
  rw [go_in, args_1]
  unfold ac13
  have hf8 := fits_small (m := d.length) (bytes := 8) (by omega) (by omega)
  have hca : closedL [v] = true := by simp [closedL, IsM.closed _ _ hv]
  have wn := wrap_i64 (n := (d.length : Int) - 1) (by omega) (by omega)
  simp [ld, hf8]
  refine k_of (follows_fn hv hs) hca ?_
  simp [ld, hf8, wn]
  generalize hA : PV.fs false (tab d.length fun i => laterRow d i) = A
  refine rounds (fun N T h => ∃ m sz f x, m ≤ d.length ∧ N = m ∧ hlen h = 1 ∧ blk h 0 = some (.cells 0 3 true (tab d.length fun k => vi (sz k))) ∧ SzP d d.length m sz ∧ (m < d.length → FirstP d.length m sz f) ∧ (m = d.length → f = 0) ∧ x = (m : Int) - 1 ∧ T 3 = vi d.length ∧ T 4 = A ∧ T 5 = .os 0 0 0 d.length ∧ T 6 = vi (f : Int) ∧ T 7 = vi x) d.length ⟨d.length, fun _ => 0, 0, _, Nat.le_refl _, rfl, rfl, rfl, fun i h1 h2 => by omega, fun h => by omega, fun _ => rfl, rfl, ?_⟩ ?_
  · simp
  rintro N R hR T h ⟨m, sz, f, x, hm, rfl, hl, hb, hS, hF, hF0, rfl, h3, h4, h5, h6, h7⟩
  have hxA : ∀ i : Nat, i < d.length → idxR 1 A (vi (i : Int)) = some (.fp (laterRow d i)) := fun i hi => by rw [← hA]; simp [hi, laterRow]
  have hlA : ∀ (h : Heap) (i : Nat), loadR h 1 false (.fp (laterRow d i)) = some (laterRow d i) := fun h i => by simp [laterRow]
  have hxL : ∀ i j : Nat, j < d.length → idxR 1 (laterRow d i) (vi (j : Int)) = some (.fp (vb (tb (Lat d i j)))) := fun i j hj => by simp [laterRow, hj]
  cases N with
  | succ i =>
    have e7 : ((i + 1 : Nat) : Int) - 1 = i := by omega
    rw [e7] at h7
    have hin : i < d.length := by omega
    have wi := wrap_i64 (n := (i : Int) - 1) (by omega) (by omega)
    simp [h3, h4, h5, h6, h7, hin, hb, hl]
    refine rounds (fun N T h => ∃ (j : Nat) (sz' : Nat → Int), j ≤ d.length ∧ N = d.length - j ∧ hlen h = 1 ∧ blk h 0 = some (.cells 0 3 true (tab d.length fun k => vi (sz' k))) ∧ (∀ k, k ≠ i → sz' k = sz k) ∧ (1 ≤ sz' i ∧ sz' i ≤ (d.length : Int) - i) ∧ (∀ j', j' < j → Lat d i j' → sz j' + 1 ≤ sz' i) ∧ (sz' i = 1 ∨ ∃ j', j' < j ∧ Lat d i j' ∧ sz' i = sz j' + 1) ∧ T 3 = vi d.length ∧ T 4 = A ∧ T 5 = .os 0 0 0 d.length ∧ T 6 = vi f ∧ T 7 = vi i ∧ T 27 = vi d.length ∧ T 28 = vi j) d.length ⟨0, updF sz i 1, by omega, by omega, by simp [hl], by simp [hl, updF_comp], fun k hk => updF_ne hk, by rw [updF_eq]; omega, fun j' h => by omega, .inl updF_eq, ?_⟩ ?_
    · simp [h3, h4, h5, h6, h7]
    rintro N' R' hR' T h ⟨j, sz', hj, rfl, hl, hb, hk, hi1, hu, he, h3, h4, h5, h6, h7, h27, h28⟩
    by_cases hlt : j < d.length
    · have wj := wrap_i64 (n := (j : Int) + 1) (by omega) (by omega)
      have xA := hxA i hin
      have xL := hxL i j hlt
      by_cases hL : Lat d i j
      · have hij := hL.rch.2
        have hne : ¬j = i := by omega
        have hsj := hS j (by omega) hlt
        have wz := wrap_i64 (n := sz j + 1) (by omega) (by omega)
        simp [h3, h4, h5, h6, h7, h27, h28, hlt, hin, hb, hl, xA, hlA, xL, tb_true hL, wj, hk j hne, wz]
        refine hR' (d.length - (j + 1)) _ _ (by omega) ⟨j + 1, updF sz' i (max (sz' i) (sz j + 1)), by omega, rfl, by simp [hl], by simp [hl, updF_comp], fun k hk' => by rw [updF_ne hk']; exact hk k hk', ?_, fun j' hj' hL' => ?_, ?_, by simp [h3, h4, h5, h6, h7, h27]⟩
        · rw [updF_eq]; omega
        · rw [updF_eq]
          by_cases e : j' = j
          · subst e; omega
          · have := hu j' (by omega) hL'; omega
        · rw [updF_eq]
          by_cases hle : sz' i ≤ sz j + 1
          · exact .inr ⟨j, by omega, hL, by omega⟩
          · rcases he with he | ⟨j', h1, h2, h3⟩
            · omega
            · exact .inr ⟨j', by omega, h2, by omega⟩
      · simp [h3, h4, h5, h6, h7, h27, h28, hlt, hin, hb, hl, xA, hlA, xL, tb_false hL, wj]
        refine hR' (d.length - (j + 1)) _ _ (by omega) ⟨j + 1, sz', by omega, rfl, hl, hb, hk, hi1, fun j' hj' hL' => ?_, ?_, by simp [h3, h4, h5, h6, h7, h27]⟩
        · by_cases e : j' = j
          · subst e; exact absurd hL' hL
          · exact hu j' (by omega) hL'
        · rcases he with he | ⟨j', h1, h2, h3⟩
          · exact .inl he
          · exact .inr ⟨j', by omega, h2, h3⟩
    · have : j = d.length := by omega
      subst this
      have hS' : SzP d d.length i sz' := by
        intro k hk1 hk2
        by_cases e : k = i
        · subst e
          refine ⟨hi1, fun j' hj' hL' => ?_, ?_⟩
          · rw [hk j' (by have := hL'.rch.2; omega)]; exact hu j' hj' hL'
          · rcases he with he | ⟨j', h1, h2, h3⟩
            · exact .inl he
            · exact .inr ⟨j', h1, h2, by rw [hk j' (by have := h2.rch.2; omega)]; exact h3⟩
        · obtain ⟨a, b, c⟩ := hS k (by omega) hk2
          rw [hk k e]
          refine ⟨a, fun j' hj' hL' => ?_, ?_⟩
          · rw [hk j' (by have := hL'.rch.2; omega)]; exact b j' hj' hL'
          · rcases c with c | ⟨j', h1, h2, h3⟩
            · exact .inl c
            · exact .inr ⟨j', h1, h2, by rw [hk j' (by have := h2.rch.2; omega)]; exact h3⟩
      by_cases hlast : (i : Int) = d.length - 1
      · simp [h3, h4, h5, h6, h7, h27, h28, hin, hb, hl, wn, wi, hlast]
        have wi' : IntKind.i64.wrap ((d.length : Int) - 1 - 1) = (i : Int) - 1 := by rw [← hlast]; exact wi
        exact hR i _ _ (by omega) ⟨i, sz', i, _, by omega, rfl, hl, hb, hS', fun _ => ⟨Nat.le_refl _, hin, fun k h1 h2 => by rw [show k = i by omega]; exact Int.le_refl _, fun k h1 h2 => by omega⟩, fun h => by omega, rfl, by simp [h3, h4, h5, wi', hlast]⟩
      · have hfp := hF (by omega)
        have hfn := hfp.2.1
        have hfi : ¬f = i := by have := hfp.1; omega
        have hff := hk f hfi
        by_cases hge : sz f ≤ sz' i
        · simp [h3, h4, h5, h6, h7, h27, h28, hin, hb, hl, wn, wi, hlast, hge, hfn, hff]
          refine hR i _ _ (by omega) ⟨i, sz', i, _, by omega, rfl, hl, hb, hS', fun _ => ⟨Nat.le_refl _, hin, fun k h1 h2 => ?_, fun k h1 h2 => by omega⟩, fun h => by omega, rfl, by simp [h3, h4, h5]⟩
          by_cases e : k = i
          · rw [e]; exact Int.le_refl _
          · rw [hk k e]; have := hfp.2.2.1 k (by omega) h2; omega
        · simp [h3, h4, h5, h6, h7, h27, h28, hin, hb, hl, wn, wi, hlast, hge, hfn, hff]
          refine hR i _ _ (by omega) ⟨i, sz', f, _, by omega, rfl, hl, hb, hS', fun _ => ⟨by have := hfp.1; omega, hfn, fun k h1 h2 => ?_, fun k h1 h2 => ?_⟩, fun h => by omega, rfl, by simp [h3, h4, h5, h6]⟩
          · by_cases e : k = i
            · rw [e, hff]; omega
            · rw [hk k e, hff]; exact hfp.2.2.1 k (by omega) h2
          · by_cases e : k = i
            · rw [e, hff]; omega
            · rw [hk k e, hff]; exact hfp.2.2.2 k (by omega) h2
  | zero =>
    by_cases hn0 : d.length = 0
    · simp [h3, h7, hn0]
      exact ⟨nilS, sc_deep, [], ⟨[], .nil, trivial⟩, .inl ⟨hn0, rfl⟩⟩
    have hn0' : ¬(d.length : Int) = 0 := by omega
    have hfp := hF (by omega)
    have hfn := hfp.2.1
    simp [h3, h4, h5, h6, h7, hn0, bsliceR, cnt]
    refine rounds (fun N T h => ∃ a l s, a < d.length ∧ l.length ≤ a ∧ N = (sz a).toNat ∧ Acc 1 3 h s ((l ++ [(a : Int)]).map vi) ∧ blk h 0 = some (.cells 0 3 true (tab d.length fun k => vi (sz k))) ∧ (∀ p, Chn d d.length sz a p → Chn d d.length sz f (l ++ p)) ∧ T 3 = vi d.length ∧ T 4 = A ∧ T 5 = .os 0 0 0 d.length ∧ T 9 = s ∧ T 10 = vi a) (sz f).toNat ⟨f, [], .fs true [vi f], hfn, by simp, rfl, ⟨by omega, by simp, .inr (.inl (by simp))⟩, hb, fun p hp => hp, ?_⟩ ?_
    · simp [h3, h4, h5]
    rintro N R' hR' T h ⟨a, l, s, ha, hla, rfl, hacc, hb, hch, h3, h4, h5, h9, h10⟩
    by_cases hgt : 1 < sz a
    · simp [h3, h4, h5, h9, h10, ha, hb, hgt]
      refine rounds (fun N T h' => ∃ j : Nat, j ≤ d.length ∧ N = d.length - j ∧ h' = h ∧ (∀ j', j' < j → Lat d a j' → ¬sz j' + 1 = sz a) ∧ T 3 = vi d.length ∧ T 4 = A ∧ T 5 = .os 0 0 0 d.length ∧ T 9 = s ∧ T 10 = vi a ∧ T 78 = vi d.length ∧ T 79 = vi j) d.length ⟨0, by omega, by omega, rfl, fun j' h => by omega, ?_⟩ ?_
      · simp [h3, h4, h5, h9, h10]
      rintro N' R'' hR'' T h' ⟨j, hj, rfl, rfl, hno, h3, h4, h5, h9, h10, h78, h79⟩
      by_cases hlt : j < d.length
      · have wj := wrap_i64 (n := (j : Int) + 1) (by omega) (by omega)
        have xA := hxA a ha
        have xL := hxL a j hlt
        have hsa := hS a (by omega) ha
        have wa := wrap_i64 (n := sz a - 1) (by omega) (by omega)
        by_cases hL : Lat d a j
        · by_cases heq : sz j = sz a - 1
          · obtain ⟨s', h'', happ, hacc', hfr, hle⟩ := Acc.push (v := vi j) (b := 8) hacc rfl (fits_small (by simp; omega) (by omega)) true
            simp [h3, h4, h5, h9, h10, h78, h79, hlt, ha, hb, hlA, xA, xL, tb_true hL, wj, wa, heq, bsliceR, cnt, happ]
            refine hR' (sz j).toNat _ _ (by omega) ⟨j, l ++ [(a : Int)], s', hlt, ?_, rfl, by simpa using hacc', by rw [hfr 0 (by omega)]; exact hb, fun p hp => ?_, by simp [h3, h4, h5]⟩
            · have := hL.rch.2; simp; omega
            · rw [List.append_assoc]
              exact hch _ (.more hgt hlt hL (by omega) hno hp)
          · simp [h3, h4, h5, h9, h10, h78, h79, hlt, ha, hb, hlA, xA, xL, tb_true hL, wj, wa, heq]
            refine hR'' (d.length - (j + 1)) _ _ (by omega) ⟨j + 1, by omega, rfl, rfl, fun j' hj' hL' => ?_, by simp [h3, h4, h5, h9, h10, h78]⟩
            by_cases e : j' = j
            · subst e; omega
            · exact hno j' (by omega) hL'
        · simp [h3, h4, h5, h9, h10, h78, h79, hlt, ha, hb, hlA, xA, xL, tb_false hL, wj, wa]
          refine hR'' (d.length - (j + 1)) _ _ (by omega) ⟨j + 1, by omega, rfl, rfl, fun j' hj' hL' => ?_, by simp [h3, h4, h5, h9, h10, h78]⟩
          by_cases e : j' = j
          · subst e; exact absurd hL' hL
          · exact hno j' (by omega) hL'
      · exfalso
        rcases (hS a (by omega) ha).2.2 with he | ⟨j', h1, h2, h3⟩
        · omega
        · exact hno j' (by omega) h2 h3.symm
    · simp [h3, h4, h5, h9, h10, ha, hb, hgt]
      obtain ⟨r, h1, h2⟩ := hacc.sl Try.prog (ints_closed _)
      exact ⟨r, h1, l ++ [(a : Int)], IsSl.ints h2, .inr ⟨sz, f, hS, hfp, hch _ (.last (by omega))⟩⟩

end Go.Proofs.Ytfcgnnafaoanfaa
