/-
  Plain library, part 15: every order, the proof.
-/
import Derived.Test.YtkgnjpoafilicaaPbAny
set_option linter.unusedVariables false
set_option linter.unusedSimpArgs false
namespace Go.Pb
open Go Go.RowKit

theorem appF_nv {h h' : Heap} {e : TypeId} {sz bytes m : Nat} {news : List PV} {v r : PV} (hq : appF h e sz bytes m news v = some (r, h')) : h.nv ≤ h'.nv := by
  unfold appF at hq
  split at hq
  · split at hq
    · simp only [Option.some.injEq, Prod.mk.injEq] at hq; rw [← hq.2]; exact Nat.le_refl _
    · split at hq
      · simp only [Option.some.injEq, Prod.mk.injEq] at hq; rw [← hq.2]; exact Nat.le_succ _
      · cases hq
  · split at hq
    · simp only [Option.some.injEq, Prod.mk.injEq] at hq; rw [← hq.2]; exact Nat.le_refl _
    · split at hq
      · simp only [Option.map_eq_some_iff, Prod.mk.injEq] at hq; obtain ⟨_, _, _, e⟩ := hq; rw [← e]; exact Nat.le_succ _
      · cases hq
  · split at hq
    · simp only [Option.some.injEq, Prod.mk.injEq] at hq; rw [← hq.2]; exact Nat.le_refl _
    · split at hq
      · split at hq
        · simp only [Option.some.injEq, Prod.mk.injEq] at hq; rw [← hq.2]; exact Nat.le_succ _
        · cases hq
      · cases hq
  · cases hq

theorem opL_nv {T : Nat → PV} {h h' : Heap} {ao : AOp} {r : PV} (hq : opL T h ao = some (r, h')) : h.nv ≤ h'.nv := by
  by_cases hA : ao.isA = true
  · obtain ⟨t, cs, k, _, _, rfl⟩ := opA_of_opL hA hq
    exact Nat.le_succ _
  · cases ao with
    | store sz x v =>
      simp only [opL] at hq
      split at hq
      · split at hq
        · split at hq
          · simp only [Option.some.injEq, Prod.mk.injEq] at hq; rw [← hq.2]; exact Nat.le_refl _
          · cases hq
        · cases hq
      · cases hq
    | append t e sz bytes s x =>
      simp only [opL] at hq
      split at hq
      · exact appF_nv hq
      · cases hq
    | box own t x => cases own <;> simp_all [AOp.isA, opL]
    | alloc own t x => cases own <;> simp_all [AOp.isA, opL]
    | bslice own e sz z parts => cases own <;> simp_all [AOp.isA, opL]
    | mkSlice e sz bytes z l c => simp [AOp.isA] at hA
    | mkMap t =>
      simp only [opL, Option.some.injEq, Prod.mk.injEq] at hq
      rw [← hq.2]; exact Nat.le_succ _
    | lookup t k e z ok x i =>
      simp only [opL, lookM] at hq
      split at hq
      · split at hq
        · split at hq
          · simp only [Option.some.injEq, Prod.mk.injEq] at hq; rw [← hq.2]; exact Nat.le_refl _
          · cases hq
        · cases hq
      · cases hq
    | mapUpdate t k m i v =>
      simp only [opL, updM] at hq
      split at hq
      · split at hq
        · split at hq
          · simp only [Option.some.injEq, Prod.mk.injEq] at hq; rw [← hq.2]; exact Nat.le_refl _
          · cases hq
        · cases hq
      · cases hq
    | _ => simp [opL] at hq

section
variable {P : Program}

theorem StepD.nv {o : AOper} {T : Nat → PV} {h h' : Heap} {r : PV} (hs : StepD P o T h r h') : h.nv ≤ h'.nv := by
  rcases hs with ⟨_, _, rfl⟩ | ⟨_, ⟨_, _, rfl⟩ | ⟨_, hq⟩ | ⟨_, rfl, _⟩⟩
  · exact Nat.le_refl _
  · exact Nat.le_refl _
  · exact opL_nv hq
  · exact Nat.le_refl _

theorem StepD.nonbar {o : AOper} {T : Nat → PV} {h h' : Heap} {r : PV} (hs : StepD P o T h r h') (hb : o.op.bar = false) :
    h' = h ∨ ∃ t cs k, guardF T o.guard = some true ∧ opA T o.op = some (t, cs, k) ∧ r = mkOwn k h.bl.length h.nv ∧ h' = newBlk h t cs := by
  rcases hs with ⟨_, _, rfl⟩ | ⟨hg, ⟨_, _, rfl⟩ | ⟨hk, hq⟩ | ⟨_, rfl, _⟩⟩
  · exact .inl rfl
  · exact .inl rfl
  · simp only [AOp.bar, hk, beq_self_eq_true, Bool.true_and, Bool.not_eq_false'] at hb
    obtain ⟨t, cs, k, h1, h2, h3⟩ := opA_of_opL hb hq
    exact .inr ⟨t, cs, k, hg, h1, h2, h3⟩
  · exact .inl rfl

theorem compOps_get {own : List Tmp} {n : Nat} {all : Array Oper} {hfs : List Nat} : ∀ {l : List Oper} {m : Nat} {al : List AOper}, compOps P own n all hfs m l = some al →
    al.length = l.length ∧ (∀ (k : Nat) o, l[k]? = some o → ∃ ao hf, al[k]? = some ao ∧ compO P own n all hf o = some ao)
  | [], m, al, h => by simp only [compOps, Option.some.injEq] at h; subst h; exact ⟨rfl, fun k o hk => by simp at hk⟩
  | o :: l, m, al, h => by
    simp only [compOps, Option.bind_eq_bind, Option.bind_eq_some_iff, Option.pure_def, Option.some.injEq] at h
    obtain ⟨a, ha, b, hb, rfl⟩ := h
    obtain ⟨h1, h2⟩ := compOps_get hb
    refine ⟨by simp [h1], fun k o' hk => ?_⟩
    cases k with
    | zero => simp only [List.getElem?_cons_zero, Option.some.injEq] at hk; subst hk; exact ⟨a, _, rfl, ha⟩
    | succ k => simpa using h2 k o' (by simpa using hk)

variable {own : List Tmp} {n : Nat} {ops : Array Oper} {al : List AOper} {ss : List Stp} {T0 : Nat → PV} {h0 : Heap} {w0 : World} {F0 : Nat → Prop} {x0 : Cx}

def isBar (al : List AOper) (k : Nat) : Bool := ((al[k]?).map (·.op.bar)).getD false

/-- All that is known of the order of the text. -/
structure Text (P : Program) (own : List Tmp) (n : Nat) (ops : Array Oper) (al : List AOper) (ss : List Stp) (T0 : Nat → PV) (h0 : Heap) : Prop where
  comp : ∃ hfs, compOps P own n ops hfs 0 ops.toList = some al
  chk : chkDraw ops al = true
  run : ∀ k o, al[k]? = some o → StepD P o (TT al ss allD T0 k) (hOf h0 ss k) (resOf ss k) (hOf h0 ss (k + 1))

theorem Text.len (X : Text P own n ops al ss T0 h0) : al.length = ops.size := by
  obtain ⟨hfs, hc⟩ := X.comp
  have := (compOps_get hc).1
  simpa using this

theorem Text.get (X : Text P own n ops al ss T0 h0) {k : Nat} {o : Oper} (hk : ops[k]? = some o) : ∃ ao hf, al[k]? = some ao ∧ compO P own n ops hf o = some ao := by
  obtain ⟨hfs, hc⟩ := X.comp
  exact (compOps_get hc).2 k o (by simpa using hk)

theorem Text.nv (X : Text P own n ops al ss T0 h0) : ∀ {j k : Nat}, j ≤ k → k ≤ al.length → (hOf h0 ss j).nv ≤ (hOf h0 ss k).nv := by
  intro j k hjk
  induction k with
  | zero => intro _; have : j = 0 := by omega
            subst this; exact Nat.le_refl _
  | succ k ih =>
    intro hk
    by_cases e : j = k + 1
    · subst e; exact Nat.le_refl _
    · have h1 := ih (by omega) (by omega)
      exact Nat.le_trans h1 (X.run k _ (List.getElem?_eq_getElem (show k < al.length by omega))).nv

theorem Text.grow (X : Text P own n ops al ss T0 h0) : ∀ {j k : Nat}, j ≤ k → k ≤ al.length → (∀ m, j ≤ m → m < k → isBar al m = false) →
    (∀ (id : Nat) b, (hOf h0 ss j).bl[id]? = some b → (hOf h0 ss k).bl[id]? = some b) ∧
    (∀ (id : Nat) b, (hOf h0 ss k).bl[id]? = some b → (hOf h0 ss j).bl[id]? = some b ∨ (hOf h0 ss j).nv ≤ b.ver) := by
  intro j k hjk
  induction k with
  | zero => intro _ _; have : j = 0 := by omega
            subst this; exact ⟨fun _ _ h => h, fun _ _ h => .inl h⟩
  | succ k ih =>
    intro hk hb
    by_cases e : j = k + 1
    · subst e; exact ⟨fun _ _ h => h, fun _ _ h => .inl h⟩
    · obtain ⟨h1, h2⟩ := ih (by omega) (by omega) fun m hm hm' => hb m hm (by omega)
      have hget := List.getElem?_eq_getElem (show k < al.length by omega)
      have hnb : (al[k]'(by omega)).op.bar = false := by
        have := hb k (by omega) (by omega)
        simpa [isBar, hget] using this
      rcases (X.run k _ hget).nonbar hnb with e1 | ⟨t, cs, kk, _, _, _, e1⟩
      · rw [e1]; exact ⟨h1, h2⟩
      · rw [e1]
        refine ⟨fun id b hb' => ?_, fun id b hb' => ?_⟩
        · have := h1 id b hb'
          simp only [newBlk]
          rw [List.getElem?_append_left (List.getElem?_eq_some_iff.1 this).1]
          exact this
        · rcases bl_append id b hb' with ⟨_, rfl⟩ | ⟨_, h3⟩
          · exact .inr (X.nv (by omega) (by omega))
          · exact h2 id b h3

/-- What holds in the middle, whatever order has been drawn so far. 'e': the next operation that must wait for all before it. -/
structure Mid (P : Program) (n : Nat) (ops : Array Oper) (al : List AOper) (ss : List Stp) (T0 : Nat → PV) (h0 : Heap) (w0 : World) (F0 : Nat → Prop) (x0 : Cx) (listed : Array Bool) (e : Nat) (a : Act) (y : Cx) : Prop where
  size : listed.size = ops.size
  down : ∀ (j : Nat) o, listed.getD j false = true → ops[j]? = some o → ∀ ed ∈ o.after, Region.binds .any ed = true → listed.getD ed.on false = true
  le : e ≤ al.length
  bar : e < al.length → isBar al e = true
  lo : ∀ j, j < e → isBar al j = true → listed.getD j false = true
  hi : ∀ j, e ≤ j → listed.getD j false = false
  rel : RelP P w0 F0 (hOf h0 ss e) y
  fut : ∀ j, j < e → listed.getD j false = false → ∀ id ver, (hOf h0 ss j).nv ≤ ver → ver < (hOf h0 ss (j + 1)).nv → y.J id ver = none
  ent : ∀ j, j < e → listed.getD j false = false → ∀ b, (hOf h0 ss (j + 1)).bl[(hOf h0 ss j).bl.length]? = some b → (hOf h0 ss e).bl[(hOf h0 ss j).bl.length]? = some b
  tmp : Temps P y n (TT al ss (fun j => listed.getD j false) T0 al.length) a
  ext : Ext x0 y

theorem listed_before (X : Text P own n ops al ss T0 h0) {listed : Array Bool} (down : ∀ (j : Nat) o, listed.getD j false = true → ops[j]? = some o → ∀ ed ∈ o.after, Region.binds .any ed = true → listed.getD ed.on false = true)
    {j : Nat} (hj : listed.getD j false = true) {i : Nat} (hb : ((befs [] ops.toList).getD j 0).testBit i = true) : listed.getD i false = true :=
  befs_spec (D := fun k => listed.getD k false) ops.toList [] (by simp) (fun k o hk hD ed hed hbind => down k o (by simpa using hD) (by simpa using hk) ed (by simpa using hed) hbind) j hj i hb

/-- All that must come before an operation that is ready has come. -/
theorem ready_before (X : Text P own n ops al ss T0 h0) {listed : Array Bool} (down : ∀ (j : Nat) o, listed.getD j false = true → ops[j]? = some o → ∀ ed ∈ o.after, Region.binds .any ed = true → listed.getD ed.on false = true)
    {i : Nat} {o : Oper} (hi : i < listed.size) (ho : ops[i]? = some o) (hall : ∀ ed ∈ o.after, Region.binds .any ed = true → listed.getD ed.on false = true) {j : Nat} (hji : j ≠ i)
    (hb : ((befs [] ops.toList).getD i 0).testBit j = true) : listed.getD j false = true := by
  have hset : ∀ k, (listed.setIfInBounds i true).getD k false = (listed.getD k false || k == i) := by
    intro k
    by_cases hk : k = i
    · subst hk; simp [Array.getD_eq_getD_getElem?, hi]
    · rw [show (k == i) = false by simpa using hk, Bool.or_false]
      simp [Array.getD_eq_getD_getElem?, Array.getElem?_setIfInBounds_ne (Ne.symm hk)]
  have := befs_spec (D := fun k => (listed.setIfInBounds i true).getD k false) ops.toList [] (by simp) (fun k o' hk hD ed hed hbind => by
    simp only [hset] at hD ⊢
    simp only [List.length_nil, Nat.zero_add, Bool.or_eq_true] at hD
    rcases hD with hD | hD
    · rw [down k o' hD (by simpa using hk) ed (by simpa using hed) hbind]; rfl
    · have hki : k = i := by simpa using hD
      subst hki
      have : o' = o := by
        have h1 : ops[k]? = some o' := by simpa using hk
        rw [ho] at h1
        simpa using h1.symm
      subst this
      rw [hall ed (by simpa using hed) hbind]; rfl) i (by simp only [hset]; simp) j hb
  simp only [hset] at this
  rw [show (j == i) = false by simpa using hji, Bool.or_false] at this
  exact this

theorem getD_set {listed : Array Bool} {i : Nat} (hi : i < listed.size) (k : Nat) : (listed.setIfInBounds i true).getD k false = (listed.getD k false || k == i) := by
  by_cases hk : k = i
  · subst hk; simp [Array.getD_eq_getD_getElem?, hi]
  · rw [show (k == i) = false by simpa using hk, Bool.or_false]
    simp [Array.getD_eq_getD_getElem?, Array.getElem?_setIfInBounds_ne (Ne.symm hk)]

theorem next_bar (al : List AOper) : ∀ (m k : Nat), k + m = al.length → ∃ e, k ≤ e ∧ e ≤ al.length ∧ (e < al.length → isBar al e = true) ∧ ∀ j, k ≤ j → j < e → isBar al j = false
  | 0, k, hk => ⟨k, Nat.le_refl _, by omega, fun h => by omega, fun j h1 h2 => by omega⟩
  | m + 1, k, hk => by
    cases hb : isBar al k with
    | true => exact ⟨k, Nat.le_refl _, by omega, fun _ => hb, fun j h1 h2 => by omega⟩
    | false =>
      obtain ⟨e, h1, h2, h3, h4⟩ := next_bar al m (k + 1) (by omega)
      refine ⟨e, by omega, h2, h3, fun j h5 h6 => ?_⟩
      by_cases hj : j = k
      · rw [hj]; exact hb
      · exact h4 j (by omega) h6

/-- From one relation to the one at the next stop. -/
theorem Text.onward (X : Text P own n ops al ss T0 h0) {j k : Nat} {y : Cx} (hjk : j ≤ k) (hk : k ≤ al.length) (hb : ∀ m, j ≤ m → m < k → isBar al m = false) (R : RelP P w0 F0 (hOf h0 ss j) y) : RelP P w0 F0 (hOf h0 ss k) y :=
  R.sub (X.nv hjk hk) fun id b hb' => by
    rcases (X.grow hjk hk hb).2 id b hb' with h1 | h1
    · exact .inl h1
    · exact .inr (R.fresh id b.ver h1)

end
end Go.Pb
