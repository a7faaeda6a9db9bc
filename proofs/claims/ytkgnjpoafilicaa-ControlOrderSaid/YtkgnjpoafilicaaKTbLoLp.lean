/-
  Hand-written texts in one.
-/
import Derived.Test.YtkgnjpoafilicaaKSzPureQRsPw
import Derived.Test.YtkgnjpoafilicaaKSzPureQRsPw
import Derived.Test.YtkgnjpoafilicaaKSzPureQRsPw
set_option linter.unusedVariables false
set_option linter.unusedSimpArgs false
set_option maxRecDepth 100000
namespace Go.Proofs.Ytkgnjpoafilicaa
open Go Go.Pb Go.RowKit
theorem tables_run : ∀ (l : List api_ControlNode) (z : List Int), runS (fun a_ s_ => control_Tables_1 a_ s_) l z = (true, z ++ (l.filter control_applies).map (·.Table))
  | [], z => by simp [runS]
  | x :: l, z => by
    rw [runS]
    have e : control_Tables_1 x z = (true, if control_applies x = true then z ++ [x.Table] else z) := by
      unfold control_Tables_1
      simp only [LET]
      split <;> rfl
    rw [e]
    show (if true = true then runS _ l (if control_applies x = true then z ++ [x.Table] else z) else _) = _
    rw [if_pos rfl, tables_run l, List.filter_cons]
    split <;> simp
theorem tables_po (l : List api_ControlNode) : control_Tables l = ((poL l).filter control_applies).map (·.Table) := by
  unfold control_Tables
  simp only [LET, pre_run]
  rw [tables_run]
  simp
theorem eqints_L1 (l : List Int) : ∀ (m : Nat) (i : Int), ref02_EqualInts_L1 l l (fun _ => true) m i = true
  | 0, i => by rw [ref02_EqualInts_L1]
  | m + 1, i => by
    rw [ref02_EqualInts_L1, if_neg (by simp)]
    exact eqints_L1 l m _
theorem eqints_refl (l : List Int) : ref02_EqualInts l l = true := by
  unfold ref02_EqualInts
  rw [if_neg (by simp)]
  exact eqints_L1 l _ _
theorem node_run (at_ : Int) : ∀ (l : List api_ControlNode) (n : Int) (z : api_ControlNode), 0 ≤ n → n + l.length ≤ 100000 → runS (fun a_ s_ => control_Node_1 a_ s_.1 at_ s_.2) l (n, z) = if n ≤ at_ ∧ at_ < n + l.length then (false, (at_, ix l (at_ - n))) else (true, (n + l.length, z))
  | [], n, z, h0, h1 => by
    rw [runS, if_neg (by simp)]
    simp
  | x :: l, n, z, h0, h1 => by
    rw [List.length_cons] at h1 ⊢
    rw [runS]
    unfold control_Node_1
    simp only [LET]
    by_cases hc : n = at_
    · subst hc
      rw [if_pos (show n ≤ n ∧ n < n + ((l.length + 1 : Nat) : Int) by omega)]
      simp [control_clone, ix]
    · simp only [decide_eq_false hc, Bool.false_eq_true, if_false, if_true]
      rw [wr_of (by omega) (by omega)]
      have ih := node_run at_ l (n + 1) z (by omega) (by omega)
      unfold control_Node_1 at ih
      simp only [LET] at ih
      rw [ih]
      by_cases h2 : n + 1 ≤ at_ ∧ at_ < n + 1 + l.length
      · rw [if_pos h2, if_pos (by omega)]
        congr 2
        unfold ix
        rw [show (at_ - n).toNat = (at_ - (n + 1)).toNat + 1 by omega]
        rfl
      · rw [if_neg h2, if_neg (by omega)]
        congr 2
        omega
def zeroN : api_ControlNode := { Kind := 0, Table := 0, Cond := [], Then := [], Else := [] }
theorem node_eq {l : List api_ControlNode} (h : csl l ≤ 1000) (at_ : Int) : control_Node l at_ = if 0 ≤ at_ ∧ at_ < csl l then (ix (poL l) at_, true) else (zeroN, false) := by
  unfold control_Node
  simp only [LET, pre_run]
  rw [node_run at_ _ 0 _ (by omega) (by rw [poL_len]; omega), poL_len]
  by_cases hc : 0 ≤ at_ ∧ at_ < csl l
  · rw [if_pos (by omega), if_pos hc]
    simp
  · rw [if_neg (by omega), if_neg hc]
    rfl
theorem ControlWalks_law (x0 : List api_ControlNode) (x1 : List Bool) : law20_ControlWalks x0 x1 = true := by
  unfold law20_ControlWalks
  simp only [LET]
  split
  · rfl
  · have e : m2_law20_walk__execute { answers := x1, next := 0, tables := [], conds := [] } x0 = wkAT x0 { answers := x1, next := 0, tables := [], conds := [] } := rfl
    rw [e, eqints_refl, eqints_refl]
    rfl
theorem onlyApply_W1 (x0 : List api_ControlNode) (l : List Bool) (rec_ : List api_ControlNode → List Bool → Int → Int) (ho : HO rec_) (hr : ∀ (z : List api_ControlNode) (s : law20_walk), s.answers = l → csl z < csl x0 → 0 ≤ s.next → s.next + csl z ≤ 100000 → (wkL awk (fun _ s => (false, s)) z s).answers = l ∧ (wkL awk (fun _ s => (false, s)) z s).next = rec_ z l s.next) :
    ∀ (m : Nat) (i : Int) (s : law20_walk), m = Int.toNat ((x0.length : Int) - i) → 0 ≤ i → s.answers = l → 0 ≤ s.next → s.next + csl (x0.drop i.toNat) ≤ 100000 →
      (wkL awk (fun _ s => (false, s)) (x0.drop i.toNat) s).answers = l ∧ (wkL awk (fun _ s => (false, s)) (x0.drop i.toNat) s).next = law20_onlyApply_L1 x0 l rec_ (fun z => z) m s.next i
  | 0, i, s, hm, h0, ha, h1, h2 => by
    rw [law20_onlyApply_L1, drop_end (by omega), wkL_nil]
    exact ⟨ha, rfl⟩
  | m + 1, i, s, hm, h0, ha, h1, h2 => by
    have hd := csl_drop (l := x0) (i := i) h0 (by omega)
    have hat := csl_at (l := x0) (i := i) h0 (by omega)
    have e0 := csl_nil
    have e1 : wr (s.next + 1) = s.next + 1 := wr_of (by omega) (by omega)
    rw [law20_onlyApply_L1, drop_ix (c := x0) (i := i) h0 (by omega), wkL_cons, wkN_eq]
    simp only [LET, e1]
    have step : ∀ (z : List api_ControlNode) (s1 : law20_walk), s1.answers = l → 0 ≤ s1.next → s1.next ≤ s.next + 1 → csl z ≤ csl (ix x0 i).Then + csl (ix x0 i).Else →
        (wkL awk (fun _ s => (false, s)) (x0.drop (i + 1).toNat) (wkL awk (fun _ s => (false, s)) z s1)).answers = l ∧ (wkL awk (fun _ s => (false, s)) (x0.drop (i + 1).toNat) (wkL awk (fun _ s => (false, s)) z s1)).next = law20_onlyApply_L1 x0 l rec_ (fun z => z) m (rec_ z l s1.next) (i + 1) := fun z s1 ha1 hn0 hn1 hz => by
      obtain ⟨q1, q2⟩ := hr z s1 ha1 (by omega) hn0 (by omega)
      have q3 := ho z l s1.next hn0 (by omega)
      have q4 := onlyApply_W1 x0 l rec_ ho hr m (i + 1) (wkL awk (fun _ s => (false, s)) z s1) (by omega) (by omega) q1 (by rw [q2]; exact q3.1) (by rw [q2]; omega)
      rw [q2] at q4
      exact q4
    have aw : ∀ t, awk t s = ((decide (0 < (s.answers.length : Int))) && (ix s.answers (Int.tmod s.next (s.answers.length : Int))), { answers := s.answers, next := s.next + 1, tables := s.tables ++ [t], conds := s.conds ++ [-1] }) := fun t => by
      simp only [awk, m2_law20_walk__apply, m2_law20_walk__answer, LET, e1]
    by_cases hk1 : (ix x0 i).Kind = 1
    · rw [if_pos (by simpa using hk1)]
      have eb : brN awk (fun _ s => (false, s)) (ix x0 i) s = ([], (awk (ix x0 i).Table s).2) := by simp [brN, hk1]
      rw [eb, aw]
      exact step [] { answers := s.answers, next := s.next + 1, tables := s.tables ++ [(ix x0 i).Table], conds := s.conds ++ [-1] } ha (by show 0 ≤ s.next + 1; omega) (by show s.next + 1 ≤ s.next + 1; omega) (by omega)
    · rw [if_neg (by simpa using hk1)]
      by_cases hk3 : (ix x0 i).Kind = 3
      · rw [if_pos (by simpa using hk3)]
        have eb : brN awk (fun _ s => (false, s)) (ix x0 i) s = (if (awk (ix x0 i).Table s).1 = true then (ix x0 i).Then else (ix x0 i).Else, (awk (ix x0 i).Table s).2) := by simp [brN, hk3]
        rw [eb, aw, ← ha]
        have st2 := fun z h => step z { answers := s.answers, next := s.next + 1, tables := s.tables ++ [(ix x0 i).Table], conds := s.conds ++ [-1] } ha (by show 0 ≤ s.next + 1; omega) (by show s.next + 1 ≤ s.next + 1; omega) h
        rw [← ha] at st2
        split
        · exact st2 (ix x0 i).Then (by omega)
        · exact st2 (ix x0 i).Else (by omega)
      · rw [if_neg (by simpa using hk3)]
        by_cases hk2 : (ix x0 i).Kind = 2
        · rw [if_pos (by simpa using hk2)]
          have eb : brN awk (fun _ s => (false, s)) (ix x0 i) s = ((ix x0 i).Else, s) := by simp [brN, hk2]
          rw [eb]
          exact step (ix x0 i).Else s ha h1 (by omega) (by omega)
        · rw [if_neg (by simpa using hk2)]
          have eb : brN awk (fun _ s => (false, s)) (ix x0 i) s = ([], s) := by simp [brN, hk1, hk2, hk3]
          rw [eb]
          exact step [] s ha h1 (by omega) (by omega)
theorem onlyApply_eq : ∀ (k : Nat) (z : List api_ControlNode) (s : law20_walk), csl z < k → 0 ≤ s.next → s.next + csl z ≤ 100000 → (wkL awk (fun _ s => (false, s)) z s).answers = s.answers ∧ (wkL awk (fun _ s => (false, s)) z s).next = law20_onlyApply_R k z s.answers s.next
  | 0, z, s, h, _, _ => by omega
  | k + 1, z, s, h, h0, h1 => by
    rw [law20_onlyApply_R]
    unfold law20_onlyApply_B
    have := onlyApply_W1 z s.answers (law20_onlyApply_R k) (onlyApply_len k) (fun z' s' ha hz hn0 hn1 => by rw [← ha]; exact onlyApply_eq k z' s' (by omega) hn0 hn1) (Int.toNat ((z.length : Int) - 0)) 0 s rfl (by omega) rfl h0 (by simpa using h1)
    simpa using this
theorem onlyTest_W1 (x0 : List api_ControlNode) (l : List Bool) (rec_ : List api_ControlNode → List Bool → Int → Int) (ho : HO rec_) (hr : ∀ (z : List api_ControlNode) (s : law20_walk), s.answers = l → csl z < csl x0 → 0 ≤ s.next → s.next + csl z ≤ 100000 → (wkL (fun _ s => (false, s)) twk z s).answers = l ∧ (wkL (fun _ s => (false, s)) twk z s).next = rec_ z l s.next) :
    ∀ (m : Nat) (i : Int) (s : law20_walk), m = Int.toNat ((x0.length : Int) - i) → 0 ≤ i → s.answers = l → 0 ≤ s.next → s.next + csl (x0.drop i.toNat) ≤ 100000 →
      (wkL (fun _ s => (false, s)) twk (x0.drop i.toNat) s).answers = l ∧ (wkL (fun _ s => (false, s)) twk (x0.drop i.toNat) s).next = law20_onlyTest_L1 x0 l rec_ (fun z => z) m s.next i
  | 0, i, s, hm, h0, ha, h1, h2 => by
    rw [law20_onlyTest_L1, drop_end (by omega), wkL_nil]
    exact ⟨ha, rfl⟩
  | m + 1, i, s, hm, h0, ha, h1, h2 => by
    have hd := csl_drop (l := x0) (i := i) h0 (by omega)
    have hat := csl_at (l := x0) (i := i) h0 (by omega)
    have e0 := csl_nil
    have e1 : wr (s.next + 1) = s.next + 1 := wr_of (by omega) (by omega)
    rw [law20_onlyTest_L1, drop_ix (c := x0) (i := i) h0 (by omega), wkL_cons, wkN_eq]
    simp only [LET, e1]
    have step : ∀ (z : List api_ControlNode) (s1 : law20_walk), s1.answers = l → 0 ≤ s1.next → s1.next ≤ s.next + 1 → csl z ≤ csl (ix x0 i).Then + csl (ix x0 i).Else →
        (wkL (fun _ s => (false, s)) twk (x0.drop (i + 1).toNat) (wkL (fun _ s => (false, s)) twk z s1)).answers = l ∧ (wkL (fun _ s => (false, s)) twk (x0.drop (i + 1).toNat) (wkL (fun _ s => (false, s)) twk z s1)).next = law20_onlyTest_L1 x0 l rec_ (fun z => z) m (rec_ z l s1.next) (i + 1) := fun z s1 ha1 hn0 hn1 hz => by
      obtain ⟨q1, q2⟩ := hr z s1 ha1 (by omega) hn0 (by omega)
      have q3 := ho z l s1.next hn0 (by omega)
      have q4 := onlyTest_W1 x0 l rec_ ho hr m (i + 1) (wkL (fun _ s => (false, s)) twk z s1) (by omega) (by omega) q1 (by rw [q2]; exact q3.1) (by rw [q2]; omega)
      rw [q2] at q4
      exact q4
    have tw : ∀ t, twk t s = ((decide (0 < (s.answers.length : Int))) && (ix s.answers (Int.tmod s.next (s.answers.length : Int))), { answers := s.answers, next := s.next + 1, tables := s.tables, conds := s.conds ++ [(t.length : Int)] }) := fun t => by
      simp only [twk, m2_law20_walk__test, m2_law20_walk__answer, LET, e1]
    by_cases hk2 : (ix x0 i).Kind = 2
    · rw [if_pos (by simpa using hk2)]
      have eb : brN (fun _ s => (false, s)) twk (ix x0 i) s = (if (twk (ix x0 i).Cond s).1 = true then (ix x0 i).Then else (ix x0 i).Else, (twk (ix x0 i).Cond s).2) := by simp [brN, hk2]
      rw [eb, tw, ← ha]
      have st2 := fun z h => step z { answers := s.answers, next := s.next + 1, tables := s.tables, conds := s.conds ++ [((ix x0 i).Cond.length : Int)] } ha (by show 0 ≤ s.next + 1; omega) (by show s.next + 1 ≤ s.next + 1; omega) h
      rw [← ha] at st2
      split
      · exact st2 (ix x0 i).Then (by omega)
      · exact st2 (ix x0 i).Else (by omega)
    · rw [if_neg (by simpa using hk2)]
      by_cases hk3 : (ix x0 i).Kind = 3
      · rw [if_pos (by simpa using hk3)]
        have eb : brN (fun _ s => (false, s)) twk (ix x0 i) s = ((ix x0 i).Else, s) := by simp [brN, hk3]
        rw [eb]
        exact step (ix x0 i).Else s ha h1 (by omega) (by omega)
      · rw [if_neg (by simpa using hk3)]
        have eb : brN (fun _ s => (false, s)) twk (ix x0 i) s = ([], s) := by
          unfold brN
          split
          · rfl
          · simp [hk2, hk3]
        rw [eb]
        exact step [] s ha h1 (by omega) (by omega)
theorem onlyTest_eq : ∀ (k : Nat) (z : List api_ControlNode) (s : law20_walk), csl z < k → 0 ≤ s.next → s.next + csl z ≤ 100000 → (wkL (fun _ s => (false, s)) twk z s).answers = s.answers ∧ (wkL (fun _ s => (false, s)) twk z s).next = law20_onlyTest_R k z s.answers s.next
  | 0, z, s, h, _, _ => by omega
  | k + 1, z, s, h, h0, h1 => by
    rw [law20_onlyTest_R]
    unfold law20_onlyTest_B
    have := onlyTest_W1 z s.answers (law20_onlyTest_R k) (onlyTest_len k) (fun z' s' ha hz hn0 hn1 => by rw [← ha]; exact onlyTest_eq k z' s' (by omega) hn0 hn1) (Int.toNat ((z.length : Int) - 0)) 0 s rfl (by omega) rfl h0 (by simpa using h1)
    simpa using this
theorem ControlNil_law (x0 : List api_ControlNode) (x1 : List Bool) : law20_ControlNil x0 x1 = true := by
  unfold law20_ControlNil
  simp only [LET]
  split
  · rfl
  · rename_i hc
    simp only [Bool.or_eq_true, Bool.not_eq_true', decide_eq_true_eq, not_or, Bool.not_eq_false] at hc
    have hs := small_csl (c := x0) (n := 60) rfl hc.1 (by omega)
    have q1 := (onlyApply_eq (csl x0 + 1) x0 { answers := x1, next := 0, tables := [], conds := [] } (by omega) (by show (0 : Int) ≤ 0; omega) (by show (0 : Int) + csl x0 ≤ 100000; omega)).2
    have q2 := (onlyTest_eq (csl x0 + 1) x0 { answers := x1, next := 0, tables := [], conds := [] } (by omega) (by show (0 : Int) ≤ 0; omega) (by show (0 : Int) + csl x0 ≤ 100000; omega)).2
    have e1 : (wkAN x0 { answers := x1, next := 0, tables := [], conds := [] }).next = law20_onlyApply x0 x1 0 := q1
    have e2 : (wkNT x0 { answers := x1, next := 0, tables := [], conds := [] }).next = law20_onlyTest x0 x1 0 := q2
    rw [e1, e2]
    simp [law20_works]
/-! What is applied is a part of Tables, in order -/
def tabs (l : List api_ControlNode) : List Int := (l.filter control_applies).map (·.Table)
theorem tabs_app (a b : List api_ControlNode) : tabs (a ++ b) = tabs a ++ tabs b := by simp [tabs]
theorem tabs_cons (x : api_ControlNode) (l : List api_ControlNode) : tabs (x :: l) = (if control_applies x = true then [x.Table] else []) ++ tabs l := by
  unfold tabs
  rw [List.filter_cons]
  split <;> simp
theorem awk_tables (t : Int) (s : law20_walk) : (awk t s).2.tables = s.tables ++ [t] := rfl
theorem twk_tables (l : List api_ExprNode) (s : law20_walk) : (twk l s).2.tables = s.tables := rfl
def SubT (s s' : law20_walk) (l : List Int) : Prop := ∃ u, s'.tables = s.tables ++ u ∧ u.Sublist l
theorem SubT.mono {s s' : law20_walk} {l l' : List Int} (h : SubT s s' l) (hl : l.Sublist l') : SubT s s' l' := by
  obtain ⟨u, h1, h2⟩ := h
  exact ⟨u, h1, h2.trans hl⟩
theorem SubT.trans {a b c : law20_walk} {l l' : List Int} (h : SubT a b l) (h' : SubT b c l') : SubT a c (l ++ l') := by
  obtain ⟨u, h1, h2⟩ := h
  obtain ⟨v, h3, h4⟩ := h'
  exact ⟨u ++ v, by rw [h3, h1, List.append_assoc], h2.append h4⟩
theorem SubT.refl (s : law20_walk) : SubT s s [] := ⟨[], by simp, List.Sublist.refl _⟩
theorem subT_awk (t : Int) (s : law20_walk) : SubT s (awk t s).2 [t] := ⟨[t], awk_tables t s, List.Sublist.refl _⟩
theorem subT_twk (l : List api_ExprNode) (s : law20_walk) : SubT s (twk l s).2 [] := ⟨[], by rw [twk_tables]; simp, List.Sublist.refl _⟩
theorem sub_of (x : api_ControlNode) (l : List Int) (h : l = tabs (poL x.Then) ∨ l = tabs (poL x.Else)) : l.Sublist (tabs (poL x.Then ++ poL x.Else)) := by
  rw [tabs_app]
  rcases h with rfl | rfl
  · exact List.sublist_append_left _ _
  · exact List.sublist_append_right _ _
theorem wkL_tab : ∀ (n : Nat) (l : List api_ControlNode) (s : law20_walk), csl l < n → SubT s (wkL awk twk l s) (tabs (poL l))
  | 0, l, s, h => by omega
  | n + 1, [], s, h => by rw [wkL_nil]; exact (SubT.refl s).mono (List.nil_sublist _)
  | n + 1, x :: l, s, h => by
    rw [csl, csn_eq] at h
    rw [wkL_cons, wkN_eq, poL, tabs_app]
    refine SubT.trans ?_ (wkL_tab n l _ (by omega))
    rw [poN_eq, tabs_cons]
    by_cases hk1 : x.Kind = 1
    · have eb : brN awk twk x s = ([], (awk x.Table s).2) := by simp [brN, hk1]
      have hap : control_applies x = true := by simp [control_applies, hk1]
      rw [eb, wkL_nil, if_pos hap]
      exact (subT_awk _ _).mono (List.sublist_append_left _ _)
    · by_cases hk3 : x.Kind = 3
      · have eb : brN awk twk x s = (if (awk x.Table s).1 = true then x.Then else x.Else, (awk x.Table s).2) := by simp [brN, hk3]
        have hap : control_applies x = true := by simp [control_applies, hk3]
        rw [eb, if_pos hap]
        refine SubT.trans (subT_awk _ _) ?_
        show SubT _ (wkL awk twk (if (awk x.Table s).1 = true then x.Then else x.Else) (awk x.Table s).2) _
        split
        · exact (wkL_tab n x.Then _ (by omega)).mono (sub_of x _ (.inl rfl))
        · exact (wkL_tab n x.Else _ (by omega)).mono (sub_of x _ (.inr rfl))
      · have hap : ¬ control_applies x = true := by simp [control_applies, hk1, hk3]
        rw [if_neg hap, List.nil_append]
        by_cases hk2 : x.Kind = 2
        · have eb : brN awk twk x s = (if (twk x.Cond s).1 = true then x.Then else x.Else, (twk x.Cond s).2) := by simp [brN, hk2]
          rw [eb]
          show SubT _ (wkL awk twk (if (twk x.Cond s).1 = true then x.Then else x.Else) (twk x.Cond s).2) _
          have hh : ∀ z, csl z < n → (tabs (poL z)).Sublist (tabs (poL x.Then ++ poL x.Else)) → SubT s (wkL awk twk z (twk x.Cond s).2) (tabs (poL x.Then ++ poL x.Else)) := fun z hz hs => by
            have := (subT_twk x.Cond s).trans (wkL_tab n z (twk x.Cond s).2 hz)
            exact this.mono hs
          split
          · exact hh _ (by omega) (sub_of x _ (.inl rfl))
          · exact hh _ (by omega) (sub_of x _ (.inr rfl))
        · have eb : brN awk twk x s = ([], s) := by simp [brN, hk1, hk2, hk3]
          rw [eb, wkL_nil]
          exact (SubT.refl s).mono (List.nil_sublist _)
/-! The first loop finds all of a part -/
theorem order_L1 (w : law20_walk) (all : List Int) (K : Int → Bool) (hl : all.length ≤ 100000) (hw : w.tables.length ≤ 100000) : ∀ (m : Nat) (a i : Int), m = Int.toNat ((all.length : Int) - i) → 0 ≤ i → 0 ≤ a → a ≤ w.tables.length → (w.tables.drop a.toNat).Sublist (all.drop i.toNat) →
    law20_ControlOrder_L1 w all K m a i = K w.tables.length
  | 0, a, i, hm, h0, ha, hb, hs => by
    rw [law20_ControlOrder_L1]
    rw [drop_end (c := all) (i := i) (by omega), List.sublist_nil, List.drop_eq_nil_iff] at hs
    congr 1
    omega
  | m + 1, a, i, hm, h0, ha, hb, hs => by
    rw [law20_ControlOrder_L1]
    by_cases hc : a < w.tables.length
    · rw [if_pos (by simp; omega)]
      rw [drop_ix (c := all) (i := i) h0 (by omega), drop_ix (c := w.tables) (i := a) ha hc] at hs
      by_cases he : ix all i = ix w.tables a
      · rw [if_pos (by simpa using he), wr_of (by omega) (by omega)]
        refine order_L1 w all K hl hw m (a + 1) (i + 1) (by omega) (by omega) (by omega) (by omega) ?_
        rw [he] at hs
        exact List.cons_sublist_cons.1 hs
      · rw [if_neg (by simpa using he)]
        refine order_L1 w all K hl hw m a (i + 1) (by omega) (by omega) ha hb ?_
        rw [drop_ix (c := w.tables) (i := a) ha hc]
        generalize ix all i = p at *
        generalize ix w.tables a = q at *
        cases hs with
        | cons _ h => exact h
        | cons_cons _ h => exact absurd rfl he
    · rw [if_neg (by simp; omega)]
      congr 1
      omega
/-! Below a node come its own -/
def DD (L : List api_ControlNode) : Prop := ∀ (i : Nat) x, L[i]? = some x → ∃ r, L.drop i = poN x ++ r
theorem DD.app {A B : List api_ControlNode} (ha : DD A) (hb : DD B) : DD (A ++ B) := fun i x hx => by
  by_cases h : i < A.length
  · rw [List.getElem?_append_left h] at hx
    obtain ⟨r, hr⟩ := ha i x hx
    exact ⟨r ++ B, by rw [List.drop_append_of_le_length (by omega), hr, List.append_assoc]⟩
  · rw [List.getElem?_append_right (by omega)] at hx
    obtain ⟨r, hr⟩ := hb _ x hx
    refine ⟨r, ?_⟩
    rw [List.drop_append, List.drop_eq_nil_of_le (by omega), List.nil_append]
    exact hr
mutual
theorem dd_N : ∀ (x : api_ControlNode), DD (poN x)
  | ⟨a, b, c, t, e⟩ => by
    intro i y hy
    have hd := (dd_L t).app (dd_L e)
    cases i with
    | zero =>
      rw [poN] at hy
      simp only [List.getElem?_cons_zero, Option.some.injEq] at hy
      subst hy
      exact ⟨[], by simp⟩
    | succ i =>
      rw [poN] at hy ⊢
      simp only [List.getElem?_cons_succ] at hy
      obtain ⟨r, hr⟩ := hd i y hy
      exact ⟨r, by rw [List.drop_succ_cons]; exact hr⟩
theorem dd_L : ∀ (l : List api_ControlNode), DD (poL l)
  | [] => fun i x hx => by rw [poL] at hx; simp at hx
  | x :: l => by
    rw [poL]
    exact (dd_N x).app (dd_L l)
end
theorem po_at {l : List api_ControlNode} {i : Int} (h0 : 0 ≤ i) (h1 : i < csl l) : ∃ r, (poL l).drop i.toNat = poN (ix (poL l) i) ++ r := by
  have hl : i.toNat < (poL l).length := by rw [poL_len]; omega
  refine dd_L l i.toNat _ ?_
  rw [ix_lt h0 (by rw [poL_len]; omega), List.getElem?_eq_getElem hl]
theorem po_len {l : List api_ControlNode} {i : Int} (h0 : 0 ≤ i) (h1 : i < csl l) : i + 1 + csl (ix (poL l) i).Then + csl (ix (poL l) i).Else ≤ csl l := by
  obtain ⟨r, hr⟩ := po_at h0 h1
  have := congrArg List.length hr
  rw [List.length_drop, List.length_append, poN_len, csn_eq, poL_len] at this
  omega
theorem po_next {l : List api_ControlNode} {i : Int} (h0 : 0 ≤ i) (h1 : i < csl l) (h2 : 0 < (ix (poL l) i).Then.length) : i + 1 < csl l ∧ ix (poL l) (i + 1) = ix (ix (poL l) i).Then 0 := by
  obtain ⟨r, hr⟩ := po_at h0 h1
  have h3 := po_len h0 h1
  generalize ix (poL l) i = x at *
  rw [poN_eq] at hr
  cases ht : x.Then with
  | nil => rw [ht] at h2; simp at h2
  | cons y t =>
    rw [ht, csl, csn_eq] at h3
    refine ⟨by omega, ?_⟩
    rw [ht, poL, poN_eq] at hr
    have h4 : (poL l).drop (i.toNat + 1) = y :: (poL y.Then ++ poL y.Else ++ poL t ++ poL x.Else ++ r) := by
      have := congrArg (List.drop 1) hr
      rw [List.drop_drop] at this
      simpa [Nat.add_comm] using this
    have h5 : (poL l)[i.toNat + 1]? = some y := by
      have := congrArg (fun z => z[0]?) h4
      simpa using this
    rw [ix, show (i + 1).toNat = i.toNat + 1 by omega, List.getD_eq_getElem?_getD, h5]
    rfl
/-! The second loop -/
theorem order_L2 {x0 : List api_ControlNode} (hs : csl x0 ≤ 1000) (K : Int → Bool) : ∀ (m : Nat) (a i : Int), m = Int.toNat ((csl x0 : Int) - i) → 0 ≤ i → 0 ≤ a → a ≤ (tabs (poL x0)).length → (tabs (poL x0)).drop a.toNat = tabs ((poL x0).drop i.toNat) → (i ≤ csl x0) →
    law20_ControlOrder_L2 x0 (tabs (poL x0)) (csl x0) K m a i = K (tabs (poL x0)).length
  | 0, a, i, hm, h0, ha, hb, hd, hi => by
    rw [law20_ControlOrder_L2]
    rw [drop_end (c := poL x0) (i := i) (by rw [poL_len]; omega)] at hd
    have : (tabs (poL x0)).length ≤ a.toNat := List.drop_eq_nil_iff.1 hd
    congr 1
    omega
  | m + 1, a, i, hm, h0, ha, hb, hd, hi => by
    have hlt : i < csl x0 := by omega
    have hpl := po_len h0 hlt
    have hnx := po_next h0 hlt
    have hal : (tabs (poL x0)).length ≤ 1000 := by
      unfold tabs
      rw [List.length_map]
      have := List.length_filter_le control_applies (poL x0)
      rw [poL_len] at this
      omega
    rw [drop_ix (c := poL x0) (i := i) h0 (by rw [poL_len]; omega), tabs_cons] at hd
    rw [law20_ControlOrder_L2]
    simp only [LET]
    rw [node_eq hs i, if_pos (show 0 ≤ i ∧ i < (csl x0 : Int) from ⟨h0, hlt⟩)]
    rw [if_neg (by simp)]
    generalize hx : ix (poL x0) i = x at *
    have c1 : csl x.Then ≤ 1000 := by omega
    have c2 : csl x.Else ≤ 1000 := by omega
    rw [count_eq c1, count_eq c2, wr_of (n := (csl x.Then : Int) + csl x.Else) (by omega) (by omega), wr_of (n := i + ((csl x.Then : Int) + csl x.Else)) (by omega) (by omega), wr_of (n := i + 1) (by omega) (by omega)]
    have tail : ∀ (a' : Int), 0 ≤ a' → a' ≤ (tabs (poL x0)).length → (tabs (poL x0)).drop a'.toNat = tabs ((poL x0).drop (i + 1).toNat) →
        (if decide ((csl x0 : Int) ≤ i + ((csl x.Then : Int) + csl x.Else)) = true then false
        else if decide (0 < (x.Then.length : Int)) = true then
          (if ((!(control_Node x0 (i + 1)).2 || !decide ((control_Node x0 (i + 1)).1.Kind = (ix x.Then 0).Kind)) || !decide ((control_Node x0 (i + 1)).1.Table = (ix x.Then 0).Table)) = true then false
          else law20_ControlOrder_L2 x0 (tabs (poL x0)) (csl x0) K m a' (i + 1))
        else law20_ControlOrder_L2 x0 (tabs (poL x0)) (csl x0) K m a' (i + 1)) = K (tabs (poL x0)).length := fun a' h1 h2 h3 => by
      have ih := order_L2 hs K m a' (i + 1) (by omega) (by omega) h1 h2 h3 (by omega)
      rw [if_neg (by simp; omega)]
      split
      · rename_i hc
        simp only [decide_eq_true_eq] at hc
        obtain ⟨q1, q2⟩ := hnx (by omega)
        rw [node_eq hs, if_pos (show 0 ≤ i + 1 ∧ i + 1 < (csl x0 : Int) from ⟨by omega, q1⟩), q2, if_neg (by simp)]
        exact ih
      · exact ih
    by_cases hap : control_applies x = true
    · have hap2 : (decide (x.Kind = 1) || decide (x.Kind = 3)) = true := hap
      rw [if_pos hap2]
      rw [if_pos hap] at hd
      have hlen : a < (tabs (poL x0)).length := by
        rcases Int.lt_or_le a (tabs (poL x0)).length with h | h
        · exact h
        · rw [drop_end h] at hd; cases hd
      rw [drop_ix (c := tabs (poL x0)) (i := a) ha hlen] at hd
      simp only [List.cons_append, List.nil_append, List.cons.injEq] at hd
      rw [if_neg (by simp [hd.1]; omega), wr_of (n := a + 1) (by omega) (by omega)]
      exact tail (a + 1) (by omega) (by omega) hd.2
    · have hap2 : ¬ (decide (x.Kind = 1) || decide (x.Kind = 3)) = true := hap
      rw [if_neg hap2]
      rw [if_neg hap] at hd
      exact tail a ha hb hd
theorem ControlOrder_law (x0 : List api_ControlNode) (x1 : List Bool) : law20_ControlOrder x0 x1 = true := by
  unfold law20_ControlOrder
  simp only [LET]
  split
  · rfl
  · rename_i hc
    simp only [Bool.or_eq_true, Bool.not_eq_true', decide_eq_true_eq, not_or, Bool.not_eq_false] at hc
    have hs := small_csl (c := x0) (n := 60) rfl hc.1 (by omega)
    have ht : control_Tables x0 = tabs (poL x0) := tables_po x0
    obtain ⟨u, hu, hsub⟩ := wkL_tab (csl x0 + 1) x0 { answers := x1, next := 0, tables := [], conds := [] } (by omega)
    rw [List.nil_append] at hu
    have hal : (tabs (poL x0)).length ≤ 1000 := by
      unfold tabs
      rw [List.length_map]
      have := List.length_filter_le control_applies (poL x0)
      rw [poL_len] at this
      omega
    have hw : wkAT x0 { answers := x1, next := 0, tables := [], conds := [] } = wkL awk twk x0 { answers := x1, next := 0, tables := [], conds := [] } := rfl
    have hul := hsub.length_le
    rw [ht, hw]
    generalize hW : wkL awk twk x0 { answers := x1, next := 0, tables := [], conds := [] } = w at *
    rw [order_L1 w _ _ (by omega) (by rw [hu]; omega) _ 0 0 rfl (by omega) (by omega) (by omega) (by rw [hu]; simpa using hsub)]
    rw [count_eq (by omega)]
    have e0 : Int.toNat ((csl x0 : Int) - 0) = Int.toNat ((csl x0 : Int) - 0) := rfl
    rw [order_L2 (by omega) _ _ 0 0 rfl (by omega) (by omega) (by omega) (by simp) (by omega)]
    rw [node_eq (by omega), node_eq (by omega), if_neg (by omega), if_neg (by omega)]
    simp [law20_works]
end Go.Proofs.Ytkgnjpoafilicaa
