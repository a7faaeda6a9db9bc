/-
  A region that draws its order, inside a round: by an invariant over what has come up.
-/
import Derived.OrdersIn
import Derived.RangeFuncNested
set_option linter.unusedVariables false
set_option linter.unusedSimpArgs false
namespace Go.Proofs
open Go
section
variable {F : Fence} {n : Nat} {P : Program} {ops : Array Oper} {Q : Exit → Act → World → Prop}
theorem Rg.ready_of {listed : Array Bool} {i : Nat} (h : i ∈ Region.ready .any ops listed) : ∃ o, ops[i]? = some o ∧ listed.getD i true = false ∧ ∀ e ∈ o.after, Region.binds .any e = true → listed.getD e.on false = true := by
  simp only [Region.ready, List.mem_filter, List.mem_range, Bool.and_eq_true, Bool.not_eq_true'] at h
  obtain ⟨hi, h1, h2⟩ := h
  refine ⟨ops[i], by simp [hi], h1, fun e he hb => ?_⟩
  simp only [Array.getElem?_eq_getElem hi, Option.map_some, Option.getD_some, Array.all_eq_true'] at h2
  have := h2 e he
  simpa [hb] using this
theorem Rg.mem_ready {listed : Array Bool} {i : Nat} {o : Oper} (hi : ops[i]? = some o) (h1 : listed.getD i true = false) (h2 : ∀ e ∈ o.after, listed.getD e.on false = true) : i ∈ Region.ready .any ops listed := by
  obtain ⟨hlt, rfl⟩ := Array.getElem?_eq_some_iff.1 hi
  simp only [Region.ready, List.mem_filter, List.mem_range, Bool.and_eq_true, Bool.not_eq_true']
  refine ⟨hlt, h1, ?_⟩
  simp only [hi, Option.map_some, Option.getD_some, Array.all_eq_true']
  intro e he
  simp [h2 e he]
/-- Who stands last in every order comes up at last. -/
theorem Rg.all_listed (hlt : ∀ (i : Nat) (o : Oper), ops[i]? = some o → ∀ e ∈ o.after, e.on < i) {listed : Array Bool} (hs : listed.size = ops.size) (h : Region.ready .any ops listed = []) : ∀ i, i < ops.size → listed.getD i false = true := by
  intro i
  induction i using Nat.strongRecOn with
  | ind i ih =>
    intro hi
    cases hb : listed.getD i false with
    | true => rfl
    | false =>
      have hd : listed.getD i true = false := by
        rw [Array.getD_eq_getD_getElem?, Array.getElem?_eq_getElem (by omega)] at hb ⊢
        simpa using hb
      have := Rg.mem_ready (ops := ops) (listed := listed) (i := i) (Array.getElem?_eq_getElem hi) hd (fun e he => ih e.on (hlt i _ (Array.getElem?_eq_getElem hi) e he) (by have := hlt i _ (Array.getElem?_eq_getElem hi) e he; omega))
      rw [h] at this
      cases this
theorem Rg.getD_set (listed : Array Bool) (i j : Nat) (d : Bool) : (listed.setIfInBounds i true).getD j d = if i = j ∧ i < listed.size then true else listed.getD j d := by
  simp only [Array.getD_eq_getD_getElem?, Array.getElem?_setIfInBounds]
  by_cases h : i = j
  · subst h
    by_cases h2 : i < listed.size
    · simp [h2]
    · simp [h2]
  · simp [h]
/-- **By an invariant.** -/
theorem Rg.any_inv (Inv : Array Bool → Act → World → Prop) (hlt : ∀ (i : Nat) (o : Oper), ops[i]? = some o → ∀ e ∈ o.after, e.on < i)
    (hstep : ∀ listed a w, listed.size = ops.size → Inv listed a w → ∀ (i : Nat) (o : Oper), ops[i]? = some o → listed.getD i true = false → (∀ e ∈ o.after, Region.binds .any e = true → listed.getD e.on false = true) → wpOpIn F n P ops Q i (Inv (listed.setIfInBounds i true)) a w)
    (hfin : ∀ listed a w, Inv listed a w → (∀ i, i < ops.size → listed.getD i false = true) → Q .normal a w) :
    ∀ (fuel : Nat) (listed : Array Bool) (a : Act) (w : World), listed.size = ops.size → Inv listed a w → listed.toList.count false ≤ fuel → wpAnyIn F n P .any ops Q fuel listed a w := by
  have hcnt : ∀ (l : List Bool) (i : Nat), l.getD i true = false → (l.set i true).count false + 1 = l.count false := by
    intro l
    induction l with
    | nil => intro i h; simp at h
    | cons b l ih =>
      intro i h
      cases i with
      | zero => simp at h; subst h; simp
      | succ i =>
        have := ih i (by simpa using h)
        simp only [List.set_cons_succ, List.count_cons]
        omega
  intro fuel
  induction fuel with
  | zero =>
    intro listed a w hs hI hc
    have hall : ∀ i, i < ops.size → listed.getD i false = true := fun i hi => by
      have hnm : false ∉ listed.toList := fun hm => by
        have := List.count_pos_iff.2 hm
        omega
      rw [Array.getD_eq_getD_getElem?, Array.getElem?_eq_getElem (by omega)]
      simp only [Option.getD_some]
      cases hb : listed[i] with
      | true => rfl
      | false => exact absurd (by rw [← hb]; simp) hnm
    refine ⟨?_, hfin listed a w hI hall⟩
    rw [List.eq_nil_iff_forall_not_mem]
    intro i hi
    obtain ⟨o, ho, h1, _⟩ := Rg.ready_of hi
    have hi' := (Array.getElem?_eq_some_iff.1 ho).1
    have h2 := hall i hi'
    rw [Array.getD_eq_getD_getElem?, Array.getElem?_eq_getElem (by omega)] at h1 h2
    simp at h1 h2
    rw [h1] at h2
    cases h2
  | succ fuel ih =>
    intro listed a w hs hI hc
    refine ⟨fun h => hfin listed a w hI (Rg.all_listed hlt hs h), fun i hi => ?_⟩
    obtain ⟨o, ho, h1, h2⟩ := Rg.ready_of hi
    refine wpOpIn_mono (fun a' w' hI' => ih _ a' w' (by simp [hs]) hI' ?_) (hstep listed a w hs hI i o ho h1 h2)
    have := hcnt listed.toList i (by simpa [Array.getD_eq_getD_getElem?, List.getD_eq_getElem?_getD] using h1)
    rw [Array.toList_setIfInBounds]
    omega
theorem Rg.hlt_of (h : ((List.range ops.size).all fun i => ((ops[i]?).map fun o => o.after.all fun e => decide (e.on < i)).getD true) = true) : ∀ (i : Nat) (o : Oper), ops[i]? = some o → ∀ e ∈ o.after, e.on < i := fun i o ho e he => by
  have hi := (Array.getElem?_eq_some_iff.1 ho).1
  have := List.all_eq_true.1 h i (List.mem_range.2 hi)
  rw [ho] at this
  simp only [Option.map_some, Option.getD_some, Array.all_eq_true'] at this
  simpa using this e he
theorem Rg.want {i : Nat} {o : Oper} {K : Act → World → Prop} {a : Act} {w : World} (ho : ops[i]? = some o) (hw : Region.wanted o (yielded ops a.tmps) = true) (h : ∀ K' : Act → World → Prop, (∀ a w, K a w → K' a w) → Oper.wpIn F n P o a w K' Q) : wpOpIn F n P ops Q i K a w := by
  unfold wpOpIn
  simp only [ho]
  rw [if_pos hw]
  exact h K (fun _ _ h => h)
end
end Go.Proofs
