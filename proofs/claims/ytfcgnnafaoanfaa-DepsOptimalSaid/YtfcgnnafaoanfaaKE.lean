/-
  What the functions of this seat compute, for every input that fits.
-/
import Derived.Test.YtfcgnnafaoanfaaKD
set_option linter.unusedVariables false
set_option linter.unusedSimpArgs false
set_option maxRecDepth 20000
namespace Go.Proofs.Ytfcgnnafaoanfaa
open Go Go.Pb Go.RowKit

/-- Lists that differ at once. -/
theorem smaller_fn {x y : Int} {l k : List Int} {u v : PV} (hu : IsL (x :: l) u) (hv : IsL (y :: k) v) (hne : ¬x = y) : FnR Try.prog 19 [u, v] (vb (decide (x < y))) := by
  refine FnR.mk text19 (by simp) ?_
  have lu := SlOf.len hu Try.underlying23
  have lv := SlOf.len hv Try.underlying23
  have xu := IsL.idx hu (k := 0) (by simp)
  have xv := IsL.idx hv (k := 0) (by simp)
  simp at xu xv
  rw [go_in, args_2]
  unfold ac19
  simp
  refine rounds (fun N T h => T 0 = u ∧ T 1 = v ∧ T 5 = vi 0) 0 ?_ ?_
  · simp
  rintro N R hR T h ⟨h0, h1, h5⟩
  have e1 : (0 : Int) < (l.length : Int) + 1 := by omega
  have e2 : (0 : Int) < (k.length : Int) + 1 := by omega
  simp [h0, h1, h5, lu, lv, xu, xv, e1, e2, hne]

theorem Chn.congr {d : List (List Int)} {n : Nat} {sz sz' : Nat → Int} {a : Nat} {l : List Int} (H : Chn d n sz a l) (h : ∀ k, a ≤ k → sz' k = sz k) : Chn d n sz' a l := by
  induction H with
  | last h1 => exact .last (by rw [h _ (Nat.le_refl _)]; exact h1)
  | @more a b l h1 h2 h3 h4 h5 h6 ih =>
    have hab := h3.rch.2
    refine .more (by rw [h _ (Nat.le_refl _)]; exact h1) h2 h3 (by rw [h b (by omega), h a (Nat.le_refl _)]; exact h4) (fun j hj hL => ?_) (ih fun k hk => h k (by omega))
    have := hL.rch.2
    rw [h j (by omega), h a (Nat.le_refl _)]; exact h5 j hj hL
theorem Chn.head {d : List (List Int)} {n : Nat} {sz : Nat → Int} {a : Nat} {l : List Int} (H : Chn d n sz a l) : ∃ k, l = (a : Int) :: k := by
  cases H with
  | last => exact ⟨_, rfl⟩
  | more => exact ⟨_, rfl⟩

set_option maxHeartbeats 4000000 in
theorem refCriticalPath_fn {d : List (List Int)} {v : PV} (hv : IsM d v) (hs : d.length < 1000000) : ∃ r, FnR Try.prog 14 [v] r ∧ ∃ p, IsL p r ∧ CPath d p := by
  refine FnR.mkE text14 _ (by simp) ?_
  have ld := SlOf.len hv Try.underlying22
  rw [go_in, args_1]
  unfold ac14
  have hf24 := fits_small (m := d.length) (bytes := 24) (by omega) (by omega)
  have wn := wrap_i64 (n := (d.length : Int) - 1) (by omega) (by omega)
  simp [ld, hf24, wn]
  refine rounds (fun N T h => ∃ m F B sz f s x, m ≤ d.length ∧ N = m ∧ 1 ≤ hlen h ∧ blk h 0 = some (.cells 0 23 true (tab d.length F)) ∧ (∀ k, one (F k) = true) ∧ (∀ k, m ≤ k → k < d.length → Acc 1 3 h (F k) ((B k).map vi) ∧ Chn d d.length sz k (B k) ∧ ((B k).length : Int) = sz k) ∧ SzP d d.length m sz ∧ (m < d.length → FirstP d.length m sz f ∧ s = F f) ∧ (m = d.length → s = nilS) ∧ x = (m : Int) - 1 ∧ T 0 = v ∧ T 3 = .os 0 0 0 d.length ∧ T 4 = s ∧ T 5 = vi x) d.length ⟨d.length, fun _ => nilS, fun _ => [], fun _ => 0, 0, nilS, _, Nat.le_refl _, rfl, by simp, rfl, fun _ => rfl, fun k h1 h2 => by omega, fun i h1 h2 => by omega, fun h => by omega, fun _ => rfl, rfl, ?_⟩ ?_
  · simp
  rintro N R hR T h ⟨m, F, B, sz, f, s, x, hm, rfl, hl, hb, hF1, hB, hS, hF, hF0, rfl, h0, h3, h4, h5⟩
  cases N with
  | succ i =>
    have e7 : ((i + 1 : Nat) : Int) - 1 = i := by omega
    rw [e7] at h5
    have hin : i < d.length := by omega
    have wi := wrap_i64 (n := (i : Int) - 1) (by omega) (by omega)
    have wi1 := wrap_i64 (n := (i : Int) + 1) (by omega) (by omega)
    have hca : closedL [v, vi i] = true := by simp [closedL, closed, IsM.closed _ _ hv]
    simp [h0, h3, h4, h5, hin, hb, hl]
    refine k_of (refFollows_fn hv hs hin) hca ?_
    simp [h0, h3, h4, h5, hin, hb, hl, wi1]
    refine rounds (fun N T h' => ∃ (j : Nat) (t : PV) (lt : List Int), i < j ∧ j ≤ d.length ∧ N = d.length - j ∧ h' = h ∧ Acc 1 3 h t (lt.map vi) ∧ ((lt = [] ∧ t = nilS ∧ ∀ j', j' < j → ¬Lat d i j') ∨ ∃ b, b < j ∧ Lat d i b ∧ lt = B b ∧ (∀ j', j' < j → Lat d i j' → sz j' ≤ sz b ∧ (j' < b → sz j' < sz b))) ∧ T 0 = v ∧ T 3 = .os 0 0 0 d.length ∧ T 4 = s ∧ T 5 = vi i ∧ T 6 = laterRow d i ∧ T 7 = t ∧ T 8 = vi j) (d.length - (i + 1)) ⟨i + 1, nilS, [], by omega, by omega, rfl, rfl, ⟨hl, rfl, .inl ⟨rfl, rfl⟩⟩, .inl ⟨rfl, rfl, fun j' h1 h2 => ?_⟩, ?_⟩ ?_
    · have := h2.rch.2; omega
    · simp [h0, h3, h4, h5]
    rintro N' R' hR' T h' ⟨j, t, lt, hij, hj, rfl, rfl, hacc, hT, h0, h3, h4, h5, h6, h7, h8⟩
    have lt1 := hacc.one
    have ltl := fun ty => hacc.len (P := Try.prog) (t := 23) (ty := ty) (by simp [Try.underlying23])
    simp at ltl
    by_cases hlt : j < d.length
    · have wj := wrap_i64 (n := (j : Int) + 1) (by omega) (by omega)
      have hxL : idxR 1 (laterRow d i) (vi (j : Int)) = some (.fp (vb (tb (Lat d i j)))) := by simp [laterRow, hlt]
      have next : ∀ (T' : Nat → PV) t lt, Acc 1 3 h' t (lt.map vi) → ((lt = [] ∧ t = nilS ∧ ∀ j', j' < j + 1 → ¬Lat d i j') ∨ ∃ b, b < j + 1 ∧ Lat d i b ∧ lt = B b ∧ (∀ j', j' < j + 1 → Lat d i j' → sz j' ≤ sz b ∧ (j' < b → sz j' < sz b))) → (T' 0 = v ∧ T' 3 = .os 0 0 0 d.length ∧ T' 4 = s ∧ T' 5 = vi i ∧ T' 6 = laterRow d i ∧ T' 7 = t ∧ T' 8 = vi ((j : Int) + 1)) → R' T' h' := fun T' t lt h1 h2 h3 =>
        hR' (d.length - (j + 1)) _ _ (by omega) ⟨j + 1, t, lt, by omega, by omega, rfl, rfl, h1, h2, h3⟩
      by_cases hL : Lat d i j
      · obtain ⟨ja, jc, js⟩ := hB j (by omega) hlt
        have j1 := ja.one
        have jl := fun ty => ja.len (P := Try.prog) (t := 23) (ty := ty) (by simp [Try.underlying23])
        simp at jl
        have hsj := (hS j (by omega) hlt).1
        by_cases hgt : lt.length < (B j).length
        · simp [h0, h3, h4, h5, h6, h7, h8, hlt, hb, ld, hxL, tb_true hL, hF1, jl, ltl, hgt, wj]
          refine next _ (F j) (B j) ja (.inr ⟨j, by omega, hL, rfl, fun j' h1 h2 => ?_⟩) (by simp [h0, h3, h4, h5, h6])
          by_cases e : j' = j
          · subst e; exact ⟨Int.le_refl _, fun h => by omega⟩
          · rcases hT with ⟨_, _, hT⟩ | ⟨b, hbj, hbL, rfl, hT⟩
            · exact absurd h2 (hT j' (by omega))
            · have := (hT j' (by omega) h2).1
              have hbs := (hB b (by have := hbL.rch.2; omega) (by omega)).2.2
              exact ⟨by omega, fun _ => by omega⟩
        · obtain ⟨b, hbj, hbL, rfl, hT2⟩ : ∃ b, b < j ∧ Lat d i b ∧ lt = B b ∧ (∀ j', j' < j → Lat d i j' → sz j' ≤ sz b ∧ (j' < b → sz j' < sz b)) := by
            rcases hT with ⟨rfl, _, _⟩ | hT
            · simp at hgt; simp [hgt] at js; omega
            · exact hT
          obtain ⟨ba, bc, bs⟩ := hB b (by have := hbL.rch.2; omega) (by omega)
          have keep : (∃ b', b' < j + 1 ∧ Lat d i b' ∧ B b = B b' ∧ (∀ j', j' < j + 1 → Lat d i j' → sz j' ≤ sz b' ∧ (j' < b' → sz j' < sz b'))) := by
            refine ⟨b, by omega, hbL, rfl, fun j' h1 h2 => ?_⟩
            by_cases e : j' = j
            · subst e; exact ⟨by omega, fun h => by omega⟩
            · exact hT2 j' (by omega) h2
          by_cases heq : (B j).length = (B b).length
          · simp [h0, h3, h4, h5, h6, h7, h8, hlt, hb, ld, hxL, tb_true hL, hF1, jl, ltl, hgt, heq, wj]
            obtain ⟨kj, ej⟩ := jc.head
            obtain ⟨kb, eb⟩ := bc.head
            obtain ⟨rj, dj, sj⟩ := ja.sl Try.prog (ints_closed _)
            obtain ⟨rb, db, sb⟩ := hacc.sl Try.prog (ints_closed _)
            have ij := IsSl.ints sj
            have ib := IsSl.ints sb
            rw [ej] at ij
            rw [eb] at ib
            have hjb : ¬(j : Int) < b := by omega
            refine k_lend (ds := [rj, rb]) ⟨dj, db, trivial⟩ (smaller_fn ij ib (by omega)) rfl ?_
            simp [h0, h3, h4, h5, h6, h7, h8, hlt, hb, ld, hxL, tb_true hL, hF1, jl, ltl, hgt, heq, wj, Nat.lt_asymm hbj, Nat.not_lt.2 (Nat.le_of_lt hbj)]
            exact next _ t (B b) hacc (.inr keep) (by simp [h0, h3, h4, h5, h6, h7])
          · have heq' : ¬((B j).length : Int) = (B b).length := by omega
            simp [h0, h3, h4, h5, h6, h7, h8, hlt, hb, ld, hxL, tb_true hL, hF1, jl, ltl, hgt, heq, heq', wj]
            exact next _ t (B b) hacc (.inr keep) (by simp [h0, h3, h4, h5, h6, h7])
      · simp [h0, h3, h4, h5, h6, h7, h8, hlt, hb, ld, hxL, tb_false hL, hF1, wj]
        refine next _ t lt hacc ?_ (by simp [h0, h3, h4, h5, h6, h7])
        rcases hT with ⟨h1, h2, hT⟩ | ⟨b, hbj, hbL, h1, hT⟩
        · refine .inl ⟨h1, h2, fun j' h3 h4 => ?_⟩
          by_cases e : j' = j
          · subst e; exact hL h4
          · exact hT j' (by omega) h4
        · refine .inr ⟨b, by omega, hbL, h1, fun j' h3 h4 => ?_⟩
          by_cases e : j' = j
          · subst e; exact absurd h4 hL
          · exact hT j' (by omega) h4
    · have : j = d.length := by omega
      subst this
      have hlen' : lt.length ≤ d.length := by
        rcases hT with ⟨rfl, _, _⟩ | ⟨b, hbj, hbL, rfl, _⟩
        · simp
        · have hb := hbL.rch.2
          have e := (hB b (by omega) (by omega)).2.2
          have := (hS b (by omega) (by omega)).1
          omega
      obtain ⟨s', h'', happ, hacc', hfr, hle⟩ := Acc.cons (v := vi i) (b := 8) hacc rfl (fits_small (by simp; omega) (by omega))
      have s1 := hacc'.one
      have sl := fun ty => hacc'.len (P := Try.prog) (t := 23) (ty := ty) (by simp [Try.underlying23])
      simp at sl
      have hb' : blk h'' 0 = some (.cells 0 23 true (tab d.length F)) := by rw [hfr 0 (by omega)]; exact hb
      have hl' : 0 < hlen h'' := by omega
      -- the new sizes
      have new : ∃ sz', (∀ k, k ≠ i → sz' k = sz k) ∧ sz' i = (lt.length : Int) + 1 ∧ SzP d d.length i sz' ∧ Chn d d.length sz' i ((i : Int) :: lt) := by
        have hkey : ∀ (c : Int), (∀ j', j' < d.length → Lat d i j' → sz j' + 1 ≤ c) → 1 ≤ c → c ≤ (d.length : Int) - i → (c = 1 ∨ ∃ j', j' < d.length ∧ Lat d i j' ∧ c = sz j' + 1) → SzP d d.length i (updF sz i c) := by
          intro c hc1 hc2 hc3 hc4 k hk1 hk2
          by_cases e : k = i
          · subst e
            rw [updF_eq]
            refine ⟨⟨hc2, hc3⟩, fun j' h1 h2 => ?_, ?_⟩
            · rw [updF_ne (by have := h2.rch.2; omega)]; exact hc1 j' h1 h2
            · rcases hc4 with h | ⟨j', h1, h2, h3⟩
              · exact .inl h
              · exact .inr ⟨j', h1, h2, by rw [updF_ne (by have := h2.rch.2; omega)]; exact h3⟩
          · obtain ⟨a, b, c⟩ := hS k (by omega) hk2
            rw [updF_ne e]
            refine ⟨a, fun j' h1 h2 => ?_, ?_⟩
            · rw [updF_ne (by have := h2.rch.2; omega)]; exact b j' h1 h2
            · rcases c with c | ⟨j', h1, h2, h3⟩
              · exact .inl c
              · exact .inr ⟨j', h1, h2, by rw [updF_ne (by have := h2.rch.2; omega)]; exact h3⟩
        refine ⟨updF sz i ((lt.length : Int) + 1), fun k hk => updF_ne hk, updF_eq, ?_, ?_⟩
        · rcases hT with ⟨rfl, _, hT⟩ | ⟨b, hbj, hbL, rfl, hT⟩
          · exact hkey _ (fun j' h1 h2 => absurd h2 (hT j' h1)) (by simp) (by simp; omega) (.inl (by simp))
          · have hb := hbL.rch.2
            have e := (hB b (by omega) (by omega)).2.2
            have := (hS b (by omega) (by omega)).1
            exact hkey _ (fun j' h1 h2 => by have := (hT j' h1 h2).1; omega) (by omega) (by omega) (.inr ⟨b, hbj, hbL, by omega⟩)
        · rcases hT with ⟨rfl, _, hT⟩ | ⟨b, hbj, hbL, rfl, hT⟩
          · exact .last (by rw [updF_eq]; simp)
          · have hb := hbL.rch.2
            have e := (hB b (by omega) (by omega)).2.2
            have := (hS b (by omega) (by omega)).1
            refine .more (by rw [updF_eq]; omega) hbj hbL (by rw [updF_eq, updF_ne (by omega)]; omega) (fun j' h1 h2 => ?_) ((hB b (by omega) (by omega)).2.1.congr fun k hk => updF_ne (by omega))
            have := h2.rch.2
            rw [updF_eq, updF_ne (by omega)]
            have := (hT j' (by omega) h2).2 h1
            omega
      obtain ⟨sz', hk, hi', hS', hc'⟩ := new
      have hone : ∀ k, one (updF F i s' k) = true := fun k => by
        by_cases e : k = i
        · subst e; rw [updF_eq]; exact s1
        · rw [updF_ne e]; exact hF1 k
      have hacc3 : ∀ k, i ≤ k → k < d.length → Acc 1 3 (hput h'' 0 (.cells 0 23 true (tab d.length (updF F i s')))) (updF F i s' k) ((updF B i ((i : Int) :: lt) k).map vi) ∧ Chn d d.length sz' k (updF B i ((i : Int) :: lt) k) ∧ ((updF B i ((i : Int) :: lt) k).length : Int) = sz' k := by
        intro k hk1 hk2
        by_cases e : k = i
        · subst e
          rw [updF_eq, updF_eq]
          refine ⟨?_, hc', by rw [hi']; simp⟩
          exact Acc.frame (h := h'') (by simpa using hacc') (fun i h1 h2 => by rw [blk_put_ne _ _ _ _ (by omega)]) (by simp)
        · rw [updF_ne e, updF_ne e]
          obtain ⟨a, b, c⟩ := hB k (by omega) hk2
          refine ⟨?_, b.congr fun m hm => hk m (by omega), by rw [hk k e]; exact c⟩
          have a2 : Acc 1 3 h'' (F k) ((B k).map vi) := a.frame (fun i h1 h2 => hfr i h2) hle
          exact a2.frame (fun i h1 h2 => by rw [blk_put_ne _ _ _ _ (by omega)]) (by simp)
      have slen : s = nilS ∧ d.length = i + 1 ∨ (i + 1 < d.length ∧ FirstP d.length (i + 1) sz f ∧ s = F f) := by
        by_cases e : d.length = i + 1
        · exact .inl ⟨hF0 e.symm, e⟩
        · exact .inr ⟨by omega, hF (by omega)⟩
      rcases slen with ⟨rfl, hlast⟩ | ⟨hlast, hfp, rfl⟩
      · have e0 : (0 : Int) ≤ (lt.length : Int) + 1 := by omega
        simp [h0, h3, h4, h5, h6, h7, h8, ld, bsliceR, cnt, happ, hb', hl', s1, sl, hin, wi, Try.underlying23, e0]
        trace_state
        refine hR i _ _ (by omega) ⟨i, updF F i s', updF B i ((i : Int) :: lt), sz', i, _, _, by omega, rfl, by simp; omega, by simp [hl'], hone, hacc3, hS', fun _ => ⟨⟨Nat.le_refl _, hin, fun k h1 h2 => by rw [show k = i by omega]; exact Int.le_refl _, fun k h1 h2 => by omega⟩, by rw [updF_eq]⟩, fun h => by omega, rfl, by simp [h0, h3]⟩
      · obtain ⟨fa, fc, fs⟩ := hB f hfp.1 hfp.2.1
        have fl := fun ty => fa.len (P := Try.prog) (t := 23) (ty := ty) (by simp [Try.underlying23])
        simp at fl
        have hfi : ¬f = i := by have := hfp.1; omega
        have hff := hk f hfi
        by_cases hge : (B f).length ≤ lt.length + 1
        · have hge' : ((B f).length : Int) ≤ (lt.length : Int) + 1 := by omega
          simp [h0, h3, h4, h5, h6, h7, h8, ld, bsliceR, cnt, happ, hb', hl', s1, sl, fl, hin, wi, Try.underlying23, hge, hge']
          refine hR i _ _ (by omega) ⟨i, updF F i s', updF B i ((i : Int) :: lt), sz', i, _, _, by omega, rfl, by simp; omega, by simp [hl'], hone, hacc3, hS', fun _ => ⟨⟨Nat.le_refl _, hin, fun k h1 h2 => ?_, fun k h1 h2 => by omega⟩, by rw [updF_eq]⟩, fun h => by omega, rfl, by simp [h0, h3]⟩
          by_cases e : k = i
          · rw [e]; exact Int.le_refl _
          · rw [hk k e, hi']; have := hfp.2.2.1 k (by omega) h2; omega
        · have hge' : ¬((B f).length : Int) ≤ (lt.length : Int) + 1 := by omega
          simp [h0, h3, h4, h5, h6, h7, h8, ld, bsliceR, cnt, happ, hb', hl', s1, sl, fl, hin, wi, Try.underlying23, hge, hge']
          refine hR i _ _ (by omega) ⟨i, updF F i s', updF B i ((i : Int) :: lt), sz', f, _, _, by omega, rfl, by simp; omega, by simp [hl'], hone, hacc3, hS', fun _ => ⟨⟨by have := hfp.1; omega, hfp.2.1, fun k h1 h2 => ?_, fun k h1 h2 => ?_⟩, by rw [updF_ne hfi]⟩, fun h => by omega, rfl, by simp [h0, h3, h4]⟩
          · by_cases e : k = i
            · rw [e, hff, hi']; omega
            · rw [hk k e, hff]; exact hfp.2.2.1 k (by omega) h2
          · by_cases e : k = i
            · rw [e, hff, hi']; omega
            · rw [hk k e, hff]; exact hfp.2.2.2 k (by omega) h2
  | zero =>
    by_cases hn0 : d.length = 0
    · have e4 := hF0 (by omega)
      simp [h0, h3, h4, h5, e4]
      exact ⟨nilS, sc_deep, [], ⟨[], .nil, trivial⟩, .inl ⟨hn0, rfl⟩⟩
    · obtain ⟨hfp, rfl⟩ := hF (by omega)
      obtain ⟨ha, hc, hsz⟩ := hB f (by omega) hfp.2.1
      simp [h0, h3, h4, h5]
      obtain ⟨r, h1, h2⟩ := ha.sl Try.prog (ints_closed _)
      exact ⟨r, h1, B f, IsSl.ints h2, .inr ⟨sz, f, hS, hfp, hc⟩⟩

end Go.Proofs.Ytfcgnnafaoanfaa
