/-
  LookupBest: the first row that is not beaten is the row that the definition picks.
-/
import Derived.Test.YthdnpgpnodgicaaGreatKTkPu
set_option linter.unusedVariables false
set_option linter.unusedSimpArgs false
set_option maxRecDepth 100000
namespace Go.Proofs.YthdnpgpnodgicaaGreat
open Go Go.Pb Go.RowKit
def zrow : api_Row := { ID := 0, Entry := ({ Keys := ([] : List api_KeyMatch), Priority := 0, Call := ({ Action := 0, Args := ([] : List (BitVec 32)) } : api_ActionCall) } : api_Entry) }
theorem find_L1 (l : List api_Row) (q : api_Row → Bool) (K : api_Row → api_Row × Bool) (hK : ∀ z, K z = (zrow, false)) : ∀ (m : Nat) (i : Int) (z : api_Row), m = Int.toNat ((l.length : Int) - i) → 0 ≤ i → lookup_find_api_Row_L1 l q K m i z = match (l.drop i.toNat).find? q with | some r => (r, true) | none => (zrow, false)
  | 0, i, z, hm, h0 => by
    rw [lookup_find_api_Row_L1, List.drop_of_length_le (by omega)]
    exact hK z
  | m + 1, i, z, hm, h0 => by
    have hlt : i.toNat < l.length := by omega
    rw [lookup_find_api_Row_L1, List.drop_eq_getElem_cons hlt, List.find?_cons, ix_lt h0 (by omega)]
    cases hq : q l[i.toNat]
    · simp only [Bool.false_eq_true, if_false]
      rw [find_L1 l q K hK m (i + 1) z (by omega) (by omega), show (i + 1).toNat = i.toNat + 1 by omega]
    · simp
theorem find_eq (l : List api_Row) (q : api_Row → Bool) : lookup_find_api_Row l q = match l.find? q with | some r => (r, true) | none => (zrow, false) := by
  have h : lookup_find_api_Row l q = _ := find_L1 l q (fun _ => (zrow, false)) (fun _ => rfl) _ 0 zrow rfl (by omega)
  rw [h, show Int.toNat 0 = 0 from rfl, List.drop_zero]
/-! The order of rows -/
def Bf (p : api_Program) (t : Int) (a b : api_Row) : Prop :=
  b.Entry.Priority < a.Entry.Priority ∨ (a.Entry.Priority = b.Entry.Priority ∧ (entry_prefix p t b.Entry < entry_prefix p t a.Entry ∨ (entry_prefix p t a.Entry = entry_prefix p t b.Entry ∧ a.ID < b.ID)))
theorem prec_iff (p : api_Program) (t : Int) (a b : api_Row) : entry_Precedes p t a b = true ↔ Bf p t a b := by
  unfold entry_Precedes Bf
  simp only [LET]
  by_cases h1 : a.Entry.Priority = b.Entry.Priority
  · rw [if_neg (by simp [h1])]
    by_cases h2 : entry_prefix p t a.Entry = entry_prefix p t b.Entry
    · rw [if_neg (by simp [h2])]
      simp only [decide_eq_true_eq]
      omega
    · rw [if_pos (by simp [h2])]
      simp only [decide_eq_true_eq]
      omega
  · rw [if_pos (by simp [h1])]
    simp only [decide_eq_true_eq]
    omega
section
variable (p : api_Program) (t : Int) (k : List (BitVec 32))
/-- A row is picked if it matches, and none was or it beats the one that was. -/
def pick (st : Bool × api_Row) (r : api_Row) : Bool × api_Row := if entry_Matches r.Entry k && (!st.1 || entry_Precedes p t r st.2) then (true, r) else st
theorem ref_L1 (l : List api_Row) (ht : 0 ≤ t ∧ t < p.Tables.length) : ∀ (m : Nat) (f : Bool) (i : Int) (b : api_Row), m = Int.toNat ((l.length : Int) - i) → 0 ≤ i →
    ref24_Best_L1 p t l k (fun f b => (b, f)) m f i b = (((l.drop i.toNat).foldl (pick p t k) (f, b)).2, ((l.drop i.toNat).foldl (pick p t k) (f, b)).1)
  | 0, f, i, b, hm, h0 => by
    rw [ref24_Best_L1, List.drop_of_length_le (by omega)]
    rfl
  | m + 1, f, i, b, hm, h0 => by
    have hlt : i.toNat < l.length := by omega
    rw [ref24_Best_L1, List.drop_eq_getElem_cons hlt, List.foldl_cons, if_pos (by simp only [Bool.and_eq_true, decide_eq_true_eq]; omega)]
    simp only [LET]
    rw [ix_lt h0 (by omega), ← Matches_eq, ← Precedes_eq]
    have e : (i + 1).toNat = i.toNat + 1 := by omega
    unfold pick
    split
    · rw [ref_L1 l ht m true (i + 1) _ (by omega) (by omega), e]
      rfl
    · rw [ref_L1 l ht m f (i + 1) b (by omega) (by omega), e]
      rfl
theorem ref_eq (l : List api_Row) (ht : 0 ≤ t ∧ t < p.Tables.length) : ref24_Best p t l k = ((l.foldl (pick p t k) (false, zrow)).2, (l.foldl (pick p t k) (false, zrow)).1) := by
  have h : ref24_Best p t l k = _ := ref_L1 p t k l ht _ false 0 zrow rfl (by omega)
  rw [h, show Int.toNat 0 = 0 from rfl, List.drop_zero]
/-- What the row picked so far is. -/
def Inv (a : List api_Row) (st : Bool × api_Row) : Prop :=
  (st = (false, zrow) ∧ ∀ r ∈ a, entry_Matches r.Entry k = false) ∨
  ∃ pre b post, st = (true, b) ∧ a = pre ++ b :: post ∧ entry_Matches b.Entry k = true ∧ (∀ x ∈ pre, entry_Matches x.Entry k = true → Bf p t b x) ∧ ∀ x ∈ post, entry_Matches x.Entry k = true → ¬Bf p t x b
theorem inv_step {a : List api_Row} {st : Bool × api_Row} {r : api_Row} (H : Inv p t k a st) : Inv p t k (a ++ [r]) (pick p t k st r) := by
  unfold pick
  rcases H with ⟨rfl, hall⟩ | ⟨pre, b, post, rfl, rfl, hb, h1, h2⟩
  · cases hm : entry_Matches r.Entry k
    · left
      refine ⟨by simp, fun x hx => ?_⟩
      rcases List.mem_append.1 hx with hx | hx
      · exact hall x hx
      · rw [List.mem_singleton.1 hx]; exact hm
    · right
      refine ⟨a, r, [], by simp, rfl, hm, fun x hx hx2 => ?_, fun x hx => by simp at hx⟩
      rw [hall x hx] at hx2; cases hx2
  · right
    cases hm : entry_Matches r.Entry k
    · refine ⟨pre, b, post ++ [r], by simp, by simp, hb, h1, fun x hx hx2 => ?_⟩
      rcases List.mem_append.1 hx with hx | hx
      · exact h2 x hx hx2
      · rw [List.mem_singleton.1 hx, hm] at hx2; cases hx2
    · cases hp : entry_Precedes p t r b
      · refine ⟨pre, b, post ++ [r], by simp [hp], by simp, hb, h1, fun x hx hx2 => ?_⟩
        rcases List.mem_append.1 hx with hx | hx
        · exact h2 x hx hx2
        · rw [List.mem_singleton.1 hx]
          intro hB
          rw [(prec_iff p t r b).2 hB] at hp; cases hp
      · have hB := (prec_iff p t r b).1 hp
        refine ⟨pre ++ b :: post, r, [], by simp [hp], by simp, hm, fun x hx hx2 => ?_, fun x hx => by simp at hx⟩
        rcases List.mem_append.1 hx with hx | hx
        · have := h1 x hx hx2
          unfold Bf at *; omega
        · rcases List.mem_cons.1 hx with rfl | hx
          · exact hB
          · have := h2 x hx hx2
            unfold Bf at *; omega
theorem inv_all : ∀ (c a : List api_Row) (st : Bool × api_Row), Inv p t k a st → Inv p t k (a ++ c) (c.foldl (pick p t k) st)
  | [], a, st, H => by simpa using H
  | r :: c, a, st, H => by
    have := inv_all c (a ++ [r]) _ (inv_step p t k (r := r) H)
    simpa using this
theorem beat {l : List api_Row} {x b : api_Row} (hb : b ∈ l) (h1 : entry_Matches b.Entry k = true) (h2 : Bf p t b x) : (lookup_find_api_Row l (fun y => entry_Matches y.Entry k && entry_Precedes p t y x)).2 = true := by
  rw [find_eq]
  cases hf : l.find? (fun y => entry_Matches y.Entry k && entry_Precedes p t y x) with
  | some r => rfl
  | none =>
    exfalso
    have := List.find?_eq_none.1 hf b hb
    rw [h1, (prec_iff p t b x).2 h2] at this
    simp at this
theorem best_eq (l : List api_Row) (ht : 0 ≤ t ∧ t < p.Tables.length) : lookup_Best p t l k = ref24_Best p t l k := by
  rw [ref_eq p t k l ht]
  unfold lookup_Best
  rw [if_neg (by simp only [Bool.or_eq_true, decide_eq_true_eq]; omega), find_eq]
  have H := inv_all p t k l [] (false, zrow) (.inl ⟨rfl, fun r hr => by simp at hr⟩)
  rw [List.nil_append] at H
  rcases H with ⟨e, hall⟩ | ⟨pre, b, post, e, hl, hb, h1, h2⟩
  · rw [e, List.find?_eq_none.2 fun r hr => by rw [hall r hr]; simp]
  · rw [e]
    have hbl : b ∈ l := by rw [hl]; simp
    have hf : l.find? (fun r => entry_Matches r.Entry k && !(lookup_find_api_Row l (fun x => entry_Matches x.Entry k && entry_Precedes p t x r)).2) = some b := by
      rw [List.find?_eq_some_iff_append]
      refine ⟨?_, pre, post, hl, fun x hx => ?_⟩
      · rw [hb, Bool.true_and, find_eq]
        have hn : l.find? (fun x => entry_Matches x.Entry k && entry_Precedes p t x b) = none := by
          rw [List.find?_eq_none]
          intro x hx hc
          simp only [Bool.and_eq_true] at hc
          have hB := (prec_iff p t x b).1 hc.2
          rw [hl] at hx
          rcases List.mem_append.1 hx with hx | hx
          · have := h1 x hx hc.1
            unfold Bf at *; omega
          · rcases List.mem_cons.1 hx with rfl | hx
            · unfold Bf at hB; omega
            · exact h2 x hx hc.1 hB
        rw [hn]
        rfl
      · cases hm : entry_Matches x.Entry k
        · simp
        · rw [beat p t k hbl hb (h1 x hx hm)]
          simp
    rw [hf]
end
theorem best_bad (p : api_Program) (t : Int) (k : List (BitVec 32)) (l : List api_Row) (ht : ¬(0 ≤ t ∧ t < p.Tables.length)) : lookup_Best p t l k = ref24_Best p t l k := by
  unfold lookup_Best
  rw [if_pos (by simp only [Bool.or_eq_true, decide_eq_true_eq]; omega)]
  unfold ref24_Best
  cases h : Int.toNat ((l.length : Int) - 0) with
  | zero => rfl
  | succ m =>
    rw [ref24_Best_L1, if_neg (by simp only [Bool.and_eq_true, decide_eq_true_eq]; omega)]
/-! A row equals itself. -/
theorem same_L1 (x : api_Entry) : ∀ (m : Nat) (i : Int), ref23_SameKey_L1 x x (fun _ => true) m i = true
  | 0, i => rfl
  | m + 1, i => by
    rw [ref23_SameKey_L1, if_neg (by simp)]
    exact same_L1 x m _
theorem calls_L1 (x : api_ActionCall) : ∀ (m : Nat) (i : Int), ref23_EqualCalls_L1 x x (fun _ => true) m i = true
  | 0, i => rfl
  | m + 1, i => by
    rw [ref23_EqualCalls_L1, if_neg (by simp)]
    exact calls_L1 x m _
theorem equal_refl (r : api_Row) : law24_equal r r = true := by
  unfold law24_equal ref23_Equal ref23_SameKey ref23_EqualCalls
  simp only [LET]
  rw [if_neg (by simp), if_neg (by simp), same_L1, calls_L1]
  simp
theorem LookupBest_law (x0 : law24_Case) : law24_LookupBest x0 = true := by
  unfold law24_LookupBest
  simp only [LET]
  split
  · rfl
  · have e : lookup_Best x0.Program x0.Table x0.Rows x0.Key = ref24_Best x0.Program x0.Table x0.Rows x0.Key := by
      by_cases ht : 0 ≤ x0.Table ∧ x0.Table < x0.Program.Tables.length
      · exact best_eq _ _ _ _ ht
      · exact best_bad _ _ _ _ ht
    rw [e, equal_refl]
    simp [law24_works]
end Go.Proofs.YthdnpgpnodgicaaGreat
