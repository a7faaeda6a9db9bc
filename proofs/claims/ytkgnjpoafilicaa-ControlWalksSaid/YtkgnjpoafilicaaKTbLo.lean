/-
  Hand-written texts in one.
-/
import Derived.Test.YtkgnjpoafilicaaKSzPureQRsPw
import Derived.Test.YtkgnjpoafilicaaKSzPureQRsPw
import Derived.Test.YtkgnjpoafilicaaKSzPureQRsPw
set_option linter.unusedVariables false
set_option linter.unusedSimpArgs false
set_option maxRecDepth 100000
namespace Go.Proofs.Ytkgnjpoafilicaa
open Go Go.Pb Go.RowKit
theorem tables_run : ∀ (l : List api_ControlNode) (z : List Int), runS (fun a_ s_ => control_Tables_1 a_ s_) l z = (true, z ++ (l.filter control_applies).map (·.Table))
  | [], z => by simp [runS]
  | x :: l, z => by
    rw [runS]
    have e : control_Tables_1 x z = (true, if control_applies x = true then z ++ [x.Table] else z) := by
      unfold control_Tables_1
      simp only [LET]
      split <;> rfl
    rw [e]
    show (if true = true then runS _ l (if control_applies x = true then z ++ [x.Table] else z) else _) = _
    rw [if_pos rfl, tables_run l, List.filter_cons]
    split <;> simp
theorem tables_po (l : List api_ControlNode) : control_Tables l = ((poL l).filter control_applies).map (·.Table) := by
  unfold control_Tables
  simp only [LET, pre_run]
  rw [tables_run]
  simp
theorem eqints_L1 (l : List Int) : ∀ (m : Nat) (i : Int), ref02_EqualInts_L1 l l (fun _ => true) m i = true
  | 0, i => by rw [ref02_EqualInts_L1]
  | m + 1, i => by
    rw [ref02_EqualInts_L1, if_neg (by simp)]
    exact eqints_L1 l m _
theorem eqints_refl (l : List Int) : ref02_EqualInts l l = true := by
  unfold ref02_EqualInts
  rw [if_neg (by simp)]
  exact eqints_L1 l _ _
theorem node_run (at_ : Int) : ∀ (l : List api_ControlNode) (n : Int) (z : api_ControlNode), 0 ≤ n → n + l.length ≤ 100000 → runS (fun a_ s_ => control_Node_1 a_ s_.1 at_ s_.2) l (n, z) = if n ≤ at_ ∧ at_ < n + l.length then (false, (at_, ix l (at_ - n))) else (true, (n + l.length, z))
  | [], n, z, h0, h1 => by
    rw [runS, if_neg (by simp)]
    simp
  | x :: l, n, z, h0, h1 => by
    rw [List.length_cons] at h1 ⊢
    rw [runS]
    unfold control_Node_1
    simp only [LET]
    by_cases hc : n = at_
    · subst hc
      rw [if_pos (show n ≤ n ∧ n < n + ((l.length + 1 : Nat) : Int) by omega)]
      simp [control_clone, ix]
    · simp only [decide_eq_false hc, Bool.false_eq_true, if_false, if_true]
      rw [wr_of (by omega) (by omega)]
      have ih := node_run at_ l (n + 1) z (by omega) (by omega)
      unfold control_Node_1 at ih
      simp only [LET] at ih
      rw [ih]
      by_cases h2 : n + 1 ≤ at_ ∧ at_ < n + 1 + l.length
      · rw [if_pos h2, if_pos (by omega)]
        congr 2
        unfold ix
        rw [show (at_ - n).toNat = (at_ - (n + 1)).toNat + 1 by omega]
        rfl
      · rw [if_neg h2, if_neg (by omega)]
        congr 2
        omega
def zeroN : api_ControlNode := { Kind := 0, Table := 0, Cond := [], Then := [], Else := [] }
theorem node_eq {l : List api_ControlNode} (h : csl l ≤ 1000) (at_ : Int) : control_Node l at_ = if 0 ≤ at_ ∧ at_ < csl l then (ix (poL l) at_, true) else (zeroN, false) := by
  unfold control_Node
  simp only [LET, pre_run]
  rw [node_run at_ _ 0 _ (by omega) (by rw [poL_len]; omega), poL_len]
  by_cases hc : 0 ≤ at_ ∧ at_ < csl l
  · rw [if_pos (by omega), if_pos hc]
    simp
  · rw [if_neg (by omega), if_neg hc]
    rfl
theorem ControlWalks_law (x0 : List api_ControlNode) (x1 : List Bool) : law20_ControlWalks x0 x1 = true := by
  unfold law20_ControlWalks
  simp only [LET]
  split
  · rfl
  · have e : m2_law20_walk__execute { answers := x1, next := 0, tables := [], conds := [] } x0 = wkAT x0 { answers := x1, next := 0, tables := [], conds := [] } := rfl
    rw [e, eqints_refl, eqints_refl]
    rfl
theorem onlyApply_W1 (x0 : List api_ControlNode) (l : List Bool) (rec_ : List api_ControlNode → List Bool → Int → Int) (ho : HO rec_) (hr : ∀ (z : List api_ControlNode) (s : law20_walk), s.answers = l → csl z < csl x0 → 0 ≤ s.next → s.next + csl z ≤ 100000 → (wkL awk (fun _ s => (false, s)) z s).answers = l ∧ (wkL awk (fun _ s => (false, s)) z s).next = rec_ z l s.next) :
    ∀ (m : Nat) (i : Int) (s : law20_walk), m = Int.toNat ((x0.length : Int) - i) → 0 ≤ i → s.answers = l → 0 ≤ s.next → s.next + csl (x0.drop i.toNat) ≤ 100000 →
      (wkL awk (fun _ s => (false, s)) (x0.drop i.toNat) s).answers = l ∧ (wkL awk (fun _ s => (false, s)) (x0.drop i.toNat) s).next = law20_onlyApply_L1 x0 l rec_ (fun z => z) m s.next i
  | 0, i, s, hm, h0, ha, h1, h2 => by
    rw [law20_onlyApply_L1, drop_end (by omega), wkL_nil]
    exact ⟨ha, rfl⟩
  | m + 1, i, s, hm, h0, ha, h1, h2 => by
    have hd := csl_drop (l := x0) (i := i) h0 (by omega)
    have hat := csl_at (l := x0) (i := i) h0 (by omega)
    have e0 := csl_nil
    have e1 : wr (s.next + 1) = s.next + 1 := wr_of (by omega) (by omega)
    rw [law20_onlyApply_L1, drop_ix (c := x0) (i := i) h0 (by omega), wkL_cons, wkN_eq]
    simp only [LET, e1]
    have step : ∀ (z : List api_ControlNode) (s1 : law20_walk), s1.answers = l → 0 ≤ s1.next → s1.next ≤ s.next + 1 → csl z ≤ csl (ix x0 i).Then + csl (ix x0 i).Else →
        (wkL awk (fun _ s => (false, s)) (x0.drop (i + 1).toNat) (wkL awk (fun _ s => (false, s)) z s1)).answers = l ∧ (wkL awk (fun _ s => (false, s)) (x0.drop (i + 1).toNat) (wkL awk (fun _ s => (false, s)) z s1)).next = law20_onlyApply_L1 x0 l rec_ (fun z => z) m (rec_ z l s1.next) (i + 1) := fun z s1 ha1 hn0 hn1 hz => by
      obtain ⟨q1, q2⟩ := hr z s1 ha1 (by omega) hn0 (by omega)
      have q3 := ho z l s1.next hn0 (by omega)
      have q4 := onlyApply_W1 x0 l rec_ ho hr m (i + 1) (wkL awk (fun _ s => (false, s)) z s1) (by omega) (by omega) q1 (by rw [q2]; exact q3.1) (by rw [q2]; omega)
      rw [q2] at q4
      exact q4
    have aw : ∀ t, awk t s = ((decide (0 < (s.answers.length : Int))) && (ix s.answers (Int.tmod s.next (s.answers.length : Int))), { answers := s.answers, next := s.next + 1, tables := s.tables ++ [t], conds := s.conds ++ [-1] }) := fun t => by
      simp only [awk, m2_law20_walk__apply, m2_law20_walk__answer, LET, e1]
    by_cases hk1 : (ix x0 i).Kind = 1
    · rw [if_pos (by simpa using hk1)]
      have eb : brN awk (fun _ s => (false, s)) (ix x0 i) s = ([], (awk (ix x0 i).Table s).2) := by simp [brN, hk1]
      rw [eb, aw]
      exact step [] { answers := s.answers, next := s.next + 1, tables := s.tables ++ [(ix x0 i).Table], conds := s.conds ++ [-1] } ha (by show 0 ≤ s.next + 1; omega) (by show s.next + 1 ≤ s.next + 1; omega) (by omega)
    · rw [if_neg (by simpa using hk1)]
      by_cases hk3 : (ix x0 i).Kind = 3
      · rw [if_pos (by simpa using hk3)]
        have eb : brN awk (fun _ s => (false, s)) (ix x0 i) s = (if (awk (ix x0 i).Table s).1 = true then (ix x0 i).Then else (ix x0 i).Else, (awk (ix x0 i).Table s).2) := by simp [brN, hk3]
        rw [eb, aw, ← ha]
        have st2 := fun z h => step z { answers := s.answers, next := s.next + 1, tables := s.tables ++ [(ix x0 i).Table], conds := s.conds ++ [-1] } ha (by show 0 ≤ s.next + 1; omega) (by show s.next + 1 ≤ s.next + 1; omega) h
        rw [← ha] at st2
        split
        · exact st2 (ix x0 i).Then (by omega)
        · exact st2 (ix x0 i).Else (by omega)
      · rw [if_neg (by simpa using hk3)]
        by_cases hk2 : (ix x0 i).Kind = 2
        · rw [if_pos (by simpa using hk2)]
          have eb : brN awk (fun _ s => (false, s)) (ix x0 i) s = ((ix x0 i).Else, s) := by simp [brN, hk2]
          rw [eb]
          exact step (ix x0 i).Else s ha h1 (by omega) (by omega)
        · rw [if_neg (by simpa using hk2)]
          have eb : brN awk (fun _ s => (false, s)) (ix x0 i) s = ([], s) := by simp [brN, hk1, hk2, hk3]
          rw [eb]
          exact step [] s ha h1 (by omega) (by omega)
theorem onlyApply_eq : ∀ (k : Nat) (z : List api_ControlNode) (s : law20_walk), csl z < k → 0 ≤ s.next → s.next + csl z ≤ 100000 → (wkL awk (fun _ s => (false, s)) z s).answers = s.answers ∧ (wkL awk (fun _ s => (false, s)) z s).next = law20_onlyApply_R k z s.answers s.next
  | 0, z, s, h, _, _ => by omega
  | k + 1, z, s, h, h0, h1 => by
    rw [law20_onlyApply_R]
    unfold law20_onlyApply_B
    have := onlyApply_W1 z s.answers (law20_onlyApply_R k) (onlyApply_len k) (fun z' s' ha hz hn0 hn1 => by rw [← ha]; exact onlyApply_eq k z' s' (by omega) hn0 hn1) (Int.toNat ((z.length : Int) - 0)) 0 s rfl (by omega) rfl h0 (by simpa using h1)
    simpa using this
theorem onlyTest_W1 (x0 : List api_ControlNode) (l : List Bool) (rec_ : List api_ControlNode → List Bool → Int → Int) (ho : HO rec_) (hr : ∀ (z : List api_ControlNode) (s : law20_walk), s.answers = l → csl z < csl x0 → 0 ≤ s.next → s.next + csl z ≤ 100000 → (wkL (fun _ s => (false, s)) twk z s).answers = l ∧ (wkL (fun _ s => (false, s)) twk z s).next = rec_ z l s.next) :
    ∀ (m : Nat) (i : Int) (s : law20_walk), m = Int.toNat ((x0.length : Int) - i) → 0 ≤ i → s.answers = l → 0 ≤ s.next → s.next + csl (x0.drop i.toNat) ≤ 100000 →
      (wkL (fun _ s => (false, s)) twk (x0.drop i.toNat) s).answers = l ∧ (wkL (fun _ s => (false, s)) twk (x0.drop i.toNat) s).next = law20_onlyTest_L1 x0 l rec_ (fun z => z) m s.next i
  | 0, i, s, hm, h0, ha, h1, h2 => by
    rw [law20_onlyTest_L1, drop_end (by omega), wkL_nil]
    exact ⟨ha, rfl⟩
  | m + 1, i, s, hm, h0, ha, h1, h2 => by
    have hd := csl_drop (l := x0) (i := i) h0 (by omega)
    have hat := csl_at (l := x0) (i := i) h0 (by omega)
    have e0 := csl_nil
    have e1 : wr (s.next + 1) = s.next + 1 := wr_of (by omega) (by omega)
    rw [law20_onlyTest_L1, drop_ix (c := x0) (i := i) h0 (by omega), wkL_cons, wkN_eq]
    simp only [LET, e1]
    have step : ∀ (z : List api_ControlNode) (s1 : law20_walk), s1.answers = l → 0 ≤ s1.next → s1.next ≤ s.next + 1 → csl z ≤ csl (ix x0 i).Then + csl (ix x0 i).Else →
        (wkL (fun _ s => (false, s)) twk (x0.drop (i + 1).toNat) (wkL (fun _ s => (false, s)) twk z s1)).answers = l ∧ (wkL (fun _ s => (false, s)) twk (x0.drop (i + 1).toNat) (wkL (fun _ s => (false, s)) twk z s1)).next = law20_onlyTest_L1 x0 l rec_ (fun z => z) m (rec_ z l s1.next) (i + 1) := fun z s1 ha1 hn0 hn1 hz => by
      obtain ⟨q1, q2⟩ := hr z s1 ha1 (by omega) hn0 (by omega)
      have q3 := ho z l s1.next hn0 (by omega)
      have q4 := onlyTest_W1 x0 l rec_ ho hr m (i + 1) (wkL (fun _ s => (false, s)) twk z s1) (by omega) (by omega) q1 (by rw [q2]; exact q3.1) (by rw [q2]; omega)
      rw [q2] at q4
      exact q4
    have tw : ∀ t, twk t s = ((decide (0 < (s.answers.length : Int))) && (ix s.answers (Int.tmod s.next (s.answers.length : Int))), { answers := s.answers, next := s.next + 1, tables := s.tables, conds := s.conds ++ [(t.length : Int)] }) := fun t => by
      simp only [twk, m2_law20_walk__test, m2_law20_walk__answer, LET, e1]
    by_cases hk2 : (ix x0 i).Kind = 2
    · rw [if_pos (by simpa using hk2)]
      have eb : brN (fun _ s => (false, s)) twk (ix x0 i) s = (if (twk (ix x0 i).Cond s).1 = true then (ix x0 i).Then else (ix x0 i).Else, (twk (ix x0 i).Cond s).2) := by simp [brN, hk2]
      rw [eb, tw, ← ha]
      have st2 := fun z h => step z { answers := s.answers, next := s.next + 1, tables := s.tables, conds := s.conds ++ [((ix x0 i).Cond.length : Int)] } ha (by show 0 ≤ s.next + 1; omega) (by show s.next + 1 ≤ s.next + 1; omega) h
      rw [← ha] at st2
      split
      · exact st2 (ix x0 i).Then (by omega)
      · exact st2 (ix x0 i).Else (by omega)
    · rw [if_neg (by simpa using hk2)]
      by_cases hk3 : (ix x0 i).Kind = 3
      · rw [if_pos (by simpa using hk3)]
        have eb : brN (fun _ s => (false, s)) twk (ix x0 i) s = ((ix x0 i).Else, s) := by simp [brN, hk3]
        rw [eb]
        exact step (ix x0 i).Else s ha h1 (by omega) (by omega)
      · rw [if_neg (by simpa using hk3)]
        have eb : brN (fun _ s => (false, s)) twk (ix x0 i) s = ([], s) := by
          unfold brN
          split
          · rfl
          · simp [hk2, hk3]
        rw [eb]
        exact step [] s ha h1 (by omega) (by omega)
theorem onlyTest_eq : ∀ (k : Nat) (z : List api_ControlNode) (s : law20_walk), csl z < k → 0 ≤ s.next → s.next + csl z ≤ 100000 → (wkL (fun _ s => (false, s)) twk z s).answers = s.answers ∧ (wkL (fun _ s => (false, s)) twk z s).next = law20_onlyTest_R k z s.answers s.next
  | 0, z, s, h, _, _ => by omega
  | k + 1, z, s, h, h0, h1 => by
    rw [law20_onlyTest_R]
    unfold law20_onlyTest_B
    have := onlyTest_W1 z s.answers (law20_onlyTest_R k) (onlyTest_len k) (fun z' s' ha hz hn0 hn1 => by rw [← ha]; exact onlyTest_eq k z' s' (by omega) hn0 hn1) (Int.toNat ((z.length : Int) - 0)) 0 s rfl (by omega) rfl h0 (by simpa using h1)
    simpa using this
theorem ControlNil_law (x0 : List api_ControlNode) (x1 : List Bool) : law20_ControlNil x0 x1 = true := by
  unfold law20_ControlNil
  simp only [LET]
  split
  · rfl
  · rename_i hc
    simp only [Bool.or_eq_true, Bool.not_eq_true', decide_eq_true_eq, not_or, Bool.not_eq_false] at hc
    have hs := small_csl (c := x0) (n := 60) rfl hc.1 (by omega)
    have q1 := (onlyApply_eq (csl x0 + 1) x0 { answers := x1, next := 0, tables := [], conds := [] } (by omega) (by show (0 : Int) ≤ 0; omega) (by show (0 : Int) + csl x0 ≤ 100000; omega)).2
    have q2 := (onlyTest_eq (csl x0 + 1) x0 { answers := x1, next := 0, tables := [], conds := [] } (by omega) (by show (0 : Int) ≤ 0; omega) (by show (0 : Int) + csl x0 ≤ 100000; omega)).2
    have e1 : (wkAN x0 { answers := x1, next := 0, tables := [], conds := [] }).next = law20_onlyApply x0 x1 0 := q1
    have e2 : (wkNT x0 { answers := x1, next := 0, tables := [], conds := [] }).next = law20_onlyTest x0 x1 0 := q2
    rw [e1, e2]
    simp [law20_works]
end Go.Proofs.Ytkgnjpoafilicaa
