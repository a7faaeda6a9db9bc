/-
  Plain library.
-/
import Derived.Test.YtkgnjpoafilicaaPbRead
/-
  Plain library, part 26: from a function that answers true to the claim's row.
-/
set_option linter.unusedVariables false
set_option linter.unusedSimpArgs false
namespace Go.Pb
open Go Go.RowKit

def IsArg (P : Program) (t : TypeId) (c : PV) : Prop := ∃ n cs, HasC P n t cs ∧ c = valC P t cs

section
variable {P : Program} {H : Type} {enc : TypeId × Value → H} {W W' : World}

theorem args_read (hok : okTs P = true) {r : Reach} {b0 : Nat} : ∀ (ts : List TypeId) (vs : List Value) (ds : List (DataW H)) (ps : List MemPlace),
    (∀ t ∈ ts, t < P.types.size ∧ ∃ d, P.underlying t = some d) → (∀ (j : Nat) t v, ts[j]? = some t → vs[j]? = some v → Value.okWide P W r b0 t v) →
    DataW.TrodAll enc P W 0 (fun _ => true) true ts vs ds ps → ∃ css : List PV, VRV P (rdX W) css vs ∧ All2 (fun t c => IsArg P t c) ts css
  | [], [], [], _, _, _, _ => ⟨[], by simp [VRV], trivial⟩
  | t :: ts, v :: vs, d :: ds, ps, h1, h2, h3 => by
    obtain ⟨p, q, h4, h5, _⟩ := h3
    obtain ⟨hlt, dd, hd⟩ := h1 t (by simp)
    obtain ⟨n, cs, h6, h7⟩ := arg_read hok hlt hd (h2 0 t v rfl rfl) h4
    obtain ⟨css, h8, h9⟩ := args_read hok ts vs ds q (fun t ht => h1 t (by simp [ht])) (fun j t v ht hv => h2 (j + 1) t v (by simpa using ht) (by simpa using hv)) h5
    exact ⟨valC P t cs :: css, ⟨h7, h8⟩, ⟨n, cs, h6, rfl⟩, h9⟩
  | [], _ :: _, _, _, _, _, h => by simp [DataW.TrodAll] at h
  | [], [], _ :: _, _, _, _, h => by simp [DataW.TrodAll] at h
  | _ :: _, [], _, _, _, _, h => by simp [DataW.TrodAll] at h
  | _ :: _, _ :: _, [], _, _, _, h => by simp [DataW.TrodAll] at h

theorem below_all (hl : laidOutB P = true) (hb : Below W.heap.size W W') : ∀ (ts : List TypeId) (vs : List Value) (ds : List (DataW H)) (ps : List MemPlace),
    (∀ t ∈ ts, P.readableRec t = true ∧ t < P.types.size) → (∀ x ∈ ps, x.block < W.heap.size) →
    DataW.TrodAll enc P W 0 (fun _ => true) true ts vs ds ps → DataW.TrodAll enc P W' 0 (fun b => decide (b < W.heap.size)) true ts vs ds ps
  | [], [], [], _, _, _, h => h
  | t :: ts, v :: vs, d :: ds, ps, h1, h2, h3 => by
    obtain ⟨p, q, h4, h5, rfl⟩ := h3
    obtain ⟨hr, hlt⟩ := h1 t (by simp)
    exact ⟨p, q, Below.trod hl hr hlt h4 hb fun x hx => h2 x (by simp [hx]), below_all hl hb ts vs ds q (fun t ht => h1 t (by simp [ht])) (fun x hx => h2 x (by simp [hx])) h5, rfl⟩
  | [], _ :: _, _, _, _, _, h => by simp [DataW.TrodAll] at h
  | [], [], _ :: _, _, _, _, h => by simp [DataW.TrodAll] at h
  | _ :: _, [], _, _, _, _, h => by simp [DataW.TrodAll] at h
  | _ :: _, _ :: _, [], _, _, _, h => by simp [DataW.TrodAll] at h

/-- **A law that answers true, az0 its row asks.** -/
theorem law_true {f : FuncId} {fn : Func} {s : ChangeSpec} {apart fresh handsOn : Bool} {t : TypeId} {args : Array Value} {ds gs : List (DataW H)} {before : List MemPlace} {r : Reach} {b0 : Nat}
    (hok : okTs P = true) (hl : laidOutB P = true) (hts : ∀ t ∈ fn.params.toList, P.readableRec t = true ∧ t < P.types.size ∧ ∃ d, P.underlying t = some d) (hrt : fn.resultTypes = #[t]) (ht : P.underlying t = some .bool)
    (hvars : s.vars = []) (hspec : s.fn H ds = { results := [.lit (.bool true)], args := ds })
    (hval : ∀ (j : Nat) t v, fn.params[j]? = some t → args[j]? = some v → Value.okWide P W r b0 t v)
    (hW : DataW.Whole enc P fn.params.toList s.vars apart W args.toList ds gs before)
    (hf : ∀ css, All2 (fun t c => IsArg P t c) fn.params.toList css → FnR P f css (.sc (.bool true))) :
    Calls P f args W fun e W' => ∃ v, e = .returned v ∧ s.post enc P fn apart fresh handsOn false W args v W' := by
  have hlt := hW.lt
  have hW' := hW
  obtain ⟨p, q, hA, hV, hp, _, _⟩ := hW
  rw [hvars] at hV
  obtain ⟨rfl, rfl⟩ := Go.ChangeShapes.trodVars_none hV
  obtain ⟨css, h1, h2⟩ := args_read hok fn.params.toList args.toList ds p (fun t ht => (hts t ht).2) (fun j t v ht hv => hval j t v (by simpa using ht) (by simpa using hv)) hA
  have hc := (hf css h2).2 W (fun b => b < W.heap.size) args.toList (fun b hb => hb) h1
  refine hc.mono fun e W₁ hh => ?_
  obtain ⟨v, y, rfl, rfl, g, hr⟩ := hh
  have hv : v = .bool true := sc_eq hr
  subst hv
  have hb : Below W.heap.size W y.w := g.below.toBelow
  refine ⟨_, rfl, ds, [], before, [], p, [], hW', ?_, ?_, ?_, Below.frame hb _, fun h => by cases h⟩
  · rw [List.append_nil, hspec, hrt]
    exact ⟨[], [], ⟨1, by simp [DataW.trod, ht, Value.cells, Value.resultList]⟩, rfl, rfl⟩
  · rw [List.append_nil, hspec]
    exact below_all hl hb _ _ _ _ (fun t ht => ⟨(hts t ht).1, (hts t ht).2.1⟩) (fun x hx => hlt x (by rw [hp]; simp [hx])) hA
  · rw [List.append_nil, hspec, hvars]
    rfl

end

/-! Shapes of arguments -/
theorem slOf_of {α : Type} {R : α → PV → Prop} {P : Program} {e : TypeId} : ∀ (L : List (List PV)), (∀ ds ∈ L, ∃ a, R a (valC P e ds)) → ∃ l : List α, All2 R l (L.map (valC P e))
  | [], _ => ⟨[], trivial⟩
  | ds :: L, h => by
    obtain ⟨a, ha⟩ := h ds (by simp)
    obtain ⟨l, hl⟩ := slOf_of L fun ds hds => h ds (by simp [hds])
    exact ⟨a :: l, ha, hl⟩
theorem arg_slice {P : Program} {t e : TypeId} (ht : P.underlying t = some (.slice e)) {α : Type} {R : α → PV → Prop} (hR : ∀ c, IsArg P e c → ∃ a, R a c) {c : PV} (h : IsArg P t c) : ∃ l, SlOf R l c := by
  obtain ⟨n, cs, h1, rfl⟩ := h
  cases n with
  | zero => exact h1.elim
  | succ n =>
    simp only [HasC, ht] at h1
    have hv : ∀ c, valC P t [c] = c := fun c => by simp [valC, ht, aggD]
    rcases h1 with ⟨ad, rfl⟩ | ⟨L, rfl, _, h2⟩
    · rw [hv]; exact ⟨[], [], .inl ⟨ad, rfl, rfl⟩, trivial⟩
    · rw [hv]
      obtain ⟨l, hl⟩ := slOf_of (R := R) (P := P) (e := e) L fun ds hds => hR _ ⟨n, ds, (h2 ds hds).2, rfl⟩
      exact ⟨l, _, .inr ⟨false, rfl⟩, hl⟩
theorem arg_int {P : Program} {t : TypeId} (ht : P.underlying t = some (.int .i64)) {c : PV} (h : IsArg P t c) : ∃ a, RInt a c := by
  obtain ⟨n, cs, h1, rfl⟩ := h
  cases n with
  | zero => exact h1.elim
  | succ n =>
    simp only [HasC, ht] at h1
    obtain ⟨m, rfl, _⟩ := h1
    exact ⟨m, by simp [valC, ht, aggD, RInt]⟩

end Go.Pb

/-
  Plain library, part 45: what a bound on the bulk of the arguments says of them az0 data.
-/
set_option linter.unusedVariables false
set_option linter.unusedSimpArgs false
namespace Go.Pb
open Go Go.RowKit

mutual
/-- How much a data value holds. -/
def wt : PV → Nat
  | .fs _ es => wtL es + 1
  | .agg cs => wtL cs
  | .fp x => wt x + 1
  | _ => 1
def wtL : List PV → Nat
  | [] => 0
  | e :: es => wt e + wtL es
end
theorem wtL_append : ∀ (a b : List PV), wtL (a ++ b) = wtL a + wtL b
  | [], b => by simp [wtL]
  | e :: a, b => by simp only [List.cons_append, wtL, wtL_append a b]; omega
theorem wt_val {P : Program} {n : Nat} {t : TypeId} {cs : List PV} (h : HasC P n t cs) : wt (valC P t cs) ≤ wtL cs := by
  unfold valC
  cases hd : P.underlying t with
  | none => cases n <;> simp [HasC, hd] at h
  | some d =>
    cases ha : aggD d with
    | true => simp [wt, ha]
    | false =>
      obtain ⟨c, rfl⟩ := h.one hd ha
      simp [wtL, ha]

/-- A measure of bulk. -/
structure Bulk {H : Type} (B : DataW H → Nat) (BA : List (DataW H) → Nat) : Prop where
  one : ∀ d, 1 ≤ B d
  ptr : ∀ d, B d + 1 ≤ B (.ptr d)
  sl : ∀ a b, BA a + 1 ≤ B (.slice a b)
  agg : ∀ a, BA a ≤ B (.agg a)
  nil : BA [] = 0
  cons : ∀ d r, BA (d :: r) = B d + BA r

section
variable {P : Program} {w : World}

theorem fields_readB {H : Type} {enc : TypeId × Value → H} {B : DataW H → Nat} {BA : List (DataW H) → Nat} (hB : Bulk B BA) {n : Nat} (ih : ∀ (t : TypeId) us y, t < P.types.size → DataW.trod enc P w 0 (fun _ => true) true n t us = some y → ∃ cs, HasC P n t cs ∧ VRL P (rdX w) cs us ∧ wtL cs ≤ B y.1) (us : List Value) (total : Nat) (hus : us.length = total) :
    ∀ (fl : List Field) (off : Nat) (ys : List (DataW H × List MemPlace)), tiled P fl off total = true → off ≤ total → (∀ f ∈ fl, f.type < P.types.size) →
      (fl.mapM fun f => DataW.trod enc P w 0 (fun _ => true) true n f.type ((us.drop f.offset).take (P.cellsOf f.type))) = some ys →
      ∃ cs, VRL P (rdX w) cs (us.drop off) ∧ wtL cs ≤ BA (ys.map (·.1)) ∧ ∀ f ∈ fl, off ≤ f.offset ∧ HasC P n f.type ((cs.drop (f.offset - off)).take (P.cellsOf f.type))
  | [], off, ys, ht, ho, hs, hm => by
    simp only [tiled, beq_iff_eq] at ht
    subst ht
    exact ⟨[], by rw [List.drop_of_length_le (by omega)]; exact VRL_nil, by simp [wtL], by simp⟩
  | f :: fl, off, ys, ht, ho, hs, hm => by
    simp only [tiled, Bool.and_eq_true, beq_iff_eq] at ht
    obtain ⟨hoff, ht⟩ := ht
    simp only [List.mapM_cons, Option.bind_eq_bind, Option.bind_eq_some_iff, Option.pure_def, Option.some.injEq] at hm
    obtain ⟨y, hy, ys', hys, rfl⟩ := hm
    have hle : ∀ (fl : List Field) (off : Nat), tiled P fl off total = true → off ≤ total := by
      intro fl
      induction fl with
      | nil => intro off h; simp only [tiled, beq_iff_eq] at h; omega
      | cons g gl ih =>
        intro off h
        simp only [tiled, Bool.and_eq_true] at h
        have := ih _ h.2
        omega
    have hle' := hle fl _ ht
    obtain ⟨cs1, h1, h2, hw1⟩ := ih f.type _ _ (hs f (by simp)) hy
    obtain ⟨cs2, h3, hw2, h4⟩ := fields_readB hB ih us total hus fl _ ys' ht hle' (fun g hg => hs g (by simp [hg])) hys
    rw [hoff] at h2
    have hl1 := VRL_length h2
    have hlen : cs1.length = P.cellsOf f.type := by rw [← hl1]; simp; omega
    refine ⟨cs1 ++ cs2, ?_, by rw [wtL_append, List.map_cons, hB.cons]; omega, fun g hg => ?_⟩
    · have := VRL_append h2 h3
      rwa [show (us.drop off).take (P.cellsOf f.type) ++ us.drop (off + P.cellsOf f.type) = us.drop off by rw [← List.drop_drop, List.take_append_drop]] at this
    · simp only [List.mem_cons] at hg
      rcases hg with rfl | hg
      · refine ⟨by omega, ?_⟩
        rw [hoff, Nat.sub_self, List.drop_zero, ← hlen, List.take_left']
        · exact h1
        · rfl
      · obtain ⟨h5, h6⟩ := h4 g hg
        refine ⟨by omega, ?_⟩
        rw [show g.offset - off = cs1.length + (g.offset - (off + P.cellsOf f.type)) by omega, List.drop_append, List.drop_eq_nil_of_le (by omega), List.nil_append, Nat.add_sub_cancel_left]
        exact h6

theorem array_readB {H : Type} {enc : TypeId × Value → H} {B : DataW H → Nat} {BA : List (DataW H) → Nat} (hB : Bulk B BA) {n : Nat} {e : TypeId} (c : Nat) (ih : ∀ us y, DataW.trod enc P w 0 (fun _ => true) true n e us = some y → ∃ cs, HasC P n e cs ∧ VRL P (rdX w) cs us ∧ wtL cs ≤ B y.1) (us : List Value) :
    ∀ (m i : Nat) (ys : List (DataW H × List MemPlace)), us.length = (i + m) * c →
      ((List.range' i m).mapM fun i => DataW.trod enc P w 0 (fun _ => true) true n e ((us.drop (i * c)).take c)) = some ys →
      ∃ cs, VRL P (rdX w) cs (us.drop (i * c)) ∧ wtL cs ≤ BA (ys.map (·.1)) ∧ ∀ j, j < m → HasC P n e ((cs.drop (j * c)).take c)
  | 0, i, ys, hus, hm => ⟨[], by rw [List.drop_of_length_le (by simp at hus; omega)]; exact VRL_nil, by simp [wtL], fun j hj => by omega⟩
  | m + 1, i, ys, hus, hm => by
    simp only [List.range'_succ, List.mapM_cons, Option.bind_eq_bind, Option.bind_eq_some_iff, Option.pure_def, Option.some.injEq] at hm
    obtain ⟨y, hy, ys', hys, rfl⟩ := hm
    obtain ⟨cs1, h1, h2, hw1⟩ := ih _ _ hy
    obtain ⟨cs2, h3, hw2, h4⟩ := array_readB hB c ih us m (i + 1) ys' (by rw [hus]; congr 1; omega) hys
    have hl1 := VRL_length h2
    have hmul : (i + (m + 1)) * c = i * c + c + m * c := by rw [Nat.add_mul, Nat.add_mul]; omega
    have hmul2 : (i + 1) * c = i * c + c := by rw [Nat.add_mul]; omega
    have hlen : cs1.length = c := by rw [← hl1]; simp; omega
    rw [hmul2] at h3
    refine ⟨cs1 ++ cs2, ?_, by rw [wtL_append, List.map_cons, hB.cons]; omega, fun j hj => ?_⟩
    · have := VRL_append h2 h3
      rwa [show (us.drop (i * c)).take c ++ us.drop (i * c + c) = us.drop (i * c) by rw [← List.drop_drop, List.take_append_drop]] at this
    · cases j with
      | zero =>
        rw [Nat.zero_mul, List.drop_zero, ← hlen, List.take_left']
        · exact h1
        · rfl
      | succ j =>
        have := h4 j (by omega)
        rw [show (j + 1) * c = cs1.length + j * c by rw [Nat.add_mul, hlen]; omega, List.drop_append, List.drop_eq_nil_of_le (by omega), List.nil_append, Nat.add_sub_cancel_left]
        exact this

theorem slice_readB {H : Type} {enc : TypeId × Value → H} {B : DataW H → Nat} {BA : List (DataW H) → Nat} (hB : Bulk B BA) {n : Nat} {e : TypeId} (hpos : 0 < P.cellsOf e) (ih : ∀ us (y : DataW H × List MemPlace), DataW.trod enc P w 0 (fun _ => true) true n e us = some y → ∃ cs, HasC P n e cs ∧ VRL P (rdX w) cs us ∧ wtL cs ≤ B y.1)
    {a : Addr} {len cap : Nat} (hl : len ≤ cap) (hm : cap ≤ maxLen) (hcap : 0 < cap) {ys : List (DataW H × List MemPlace)} (hys : ys.length = len) (hx : ∀ i, i < cap → i = 0 ∨ i < len → ∃ us y, w.cells? 0 (a.add (i * P.cellsOf e)) (P.cellsOf e) = some us ∧ DataW.trod enc P w 0 (fun _ => true) true n e us = some y ∧ (∀ h : i < ys.length, y = ys[i])) :
    ∃ L : List (List PV), L.length = len ∧ (∀ ds ∈ L, ds.length = P.cellsOf e ∧ HasC P n e ds) ∧ VRC P (rdX w) (.fs false (L.map (valC P e))) [.slice (some a) len cap] ∧ wtL (L.map (valC P e)) ≤ BA (ys.map (·.1)) := by
  have hsp : a.spot = none := by
    obtain ⟨us, y, h1, _⟩ := hx 0 hcap (.inl rfl)
    rw [Nat.zero_mul, Addr.add_zero'] at h1
    obtain ⟨b, o, sp⟩ := a
    exact (cells_at h1 hpos).2.2.1
  obtain ⟨b, o, sp⟩ := a
  have e : sp = none := hsp
  subst e
  have hb : b < w.heap.size := by
    obtain ⟨us, y, h1, _⟩ := hx 0 hcap (.inl rfl)
    rw [Nat.zero_mul, Addr.add_zero'] at h1
    exact (cells_at h1 hpos).2.1
  have hel : ∀ i (hi : i < len), ∃ cs, HasC P n e cs ∧ (∃ us, us.length = P.cellsOf e ∧ cellsAt w b (o + i * P.cellsOf e) us ∧ VRL P (rdX w) cs us) ∧ wtL cs ≤ B (ys[i]'(by omega)).1 := fun i hi => by
    obtain ⟨us, y, h1, h2, hy⟩ := hx i (by omega) (.inr hi)
    rw [Addr.add_lit] at h1
    obtain ⟨h3, h4, h5, h6⟩ := cells_at h1 hpos
    obtain ⟨cs, h7, h8, h9⟩ := ih us y h2
    exact ⟨cs, h7, ⟨us, h3, h6, h8⟩, by rw [← hy (by omega)]; exact h9⟩
  have hBA : ∀ (a b : List (DataW H)), BA (a ++ b) = BA a + BA b := by
    intro a b
    induction a with
    | nil => rw [hB.nil, List.nil_append, Nat.zero_add]
    | cons d r ihr => rw [List.cons_append, hB.cons, hB.cons, ihr]; omega
  have key : ∀ m, m ≤ len → ∃ L : List (List PV), L.length = m ∧ (∀ i (h : i < L.length), HasC P n e L[i] ∧ ∃ us, us.length = P.cellsOf e ∧ cellsAt w b (o + i * P.cellsOf e) us ∧ VRL P (rdX w) L[i] us) ∧ wtL (L.map (valC P e)) ≤ BA ((ys.take m).map (·.1)) := by
    intro m
    induction m with
    | zero => exact fun _ => ⟨[], rfl, fun i h => by simp at h, by simp [wtL]⟩
    | succ m ihm =>
      intro hm
      obtain ⟨L, h1, h2, h5⟩ := ihm (by omega)
      obtain ⟨cs, h3, h4, h6⟩ := hel m (by omega)
      refine ⟨L ++ [cs], by simp [h1], fun i h => ?_, ?_⟩
      · by_cases hi : i < L.length
        · rw [List.getElem_append_left hi]; exact h2 i hi
        · have : i = L.length := by simp at h; omega
          subst this
          rw [List.getElem_append_right (Nat.le_refl _)]
          simp only [Nat.sub_self, List.getElem_cons_zero, h1]
          exact ⟨h3, h4⟩
      · have hv := wt_val h3
        rw [List.map_append, wtL_append, List.take_add_one, List.getElem?_eq_getElem (by omega), Option.toList_some, List.map_append, hBA]
        simp only [List.map_cons, List.map_nil, wtL, hB.cons, hB.nil]
        omega
  obtain ⟨L, h1, h2, hwt⟩ := key len (Nat.le_refl _)
  refine ⟨L, h1, fun ds hds => ?_, ⟨b, o, cap, P.cellsOf e, by simp [h1], by simpa [h1] using hl, hm, by simp, ?_⟩, by rwa [List.take_of_length_le (by omega)] at hwt⟩
  · obtain ⟨i, hi, rfl⟩ := List.getElem_of_mem hds
    obtain ⟨h3, us, h4, h5, h6⟩ := h2 i hi
    exact ⟨by rw [← h4]; exact (VRL_length h6).symm, h3⟩
  · refine VRM_of hb _ _ fun i hi => ?_
    have hi' : i < L.length := by simpa using hi
    obtain ⟨h3, us, h4, h5, h6⟩ := h2 i hi'
    refine ⟨us, h4, h5, ?_⟩
    rw [List.getElem_map]
    cases hd : P.underlying e with
    | none => cases n <;> simp [HasC, hd] at h3
    | some d => exact val_VRC hd (fun ha => h3.one hd ha) h6

/-- **What the claim's reading reads, az0 data, and how much it is.** -/
theorem read_soundB {H : Type} {enc : TypeId × Value → H} {B : DataW H → Nat} {BA : List (DataW H) → Nat} (hB : Bulk B BA) (hok : okTs P = true) : ∀ (n : Nat) (t : TypeId) (us : List Value) (y : DataW H × List MemPlace), t < P.types.size → DataW.trod enc P w 0 (fun _ => true) true n t us = some y → ∃ cs, HasC P n t cs ∧ VRL P (rdX w) cs us ∧ wtL cs ≤ B y.1
  | 0, _, _, _, _, h => by simp [DataW.trod] at h
  | n + 1, t, us, y, ht, h => by
    have hT := okT_of hok ht
    have ih := fun t us y => read_soundB (H := H) (enc := enc) hB hok n t us y
    have opq : ∀ u : Value, us = [u] → u.oneCell' = true → VRL P (rdX w) [.sc u] us := fun u e h1 => by
      subst e
      exact VRL_1 h1 ⟨rfl, h1⟩
    have o1 : ∀ v, wtL [.sc v] ≤ B y.1 := fun v => by have := hB.one y.1; simp only [wtL, wt]; omega
    by_cases hs : (∃ e, P.underlying t = some (.slice e)) ∨ (∃ e, P.underlying t = some (.pointer e)) ∨ (∃ fs, P.underlying t = some (.struct fs)) ∨ (∃ k e, P.underlying t = some (.array k e))
    · rcases hs with ⟨e, hd⟩ | ⟨e, hd⟩ | ⟨fs, hd⟩ | ⟨k, e, hd⟩
      · simp only [okT, hd, Bool.and_eq_true, decide_eq_true_eq] at hT
        simp only [DataW.trod, hd] at h
        split at h <;> try simp_all
        · refine ⟨[nilS], ?_, opq rfl, o1 _⟩
          simp only [HasC, hd]
          exact .inl ⟨_, rfl⟩
        · rename_i _ _ e a len cap _
          obtain ⟨⟨hl, hm⟩, h⟩ := h
          simp only [Option.bind_eq_some_iff, Option.map_eq_some_iff] at h
          obtain ⟨elems, he, rest, hr, hy⟩ := h
          by_cases hc0 : cap = 0
          · subst hc0
            have : len = 0 := by omega
            subst this
            refine ⟨[.sc (.slice (some a) 0 0)], ?_, opq rfl, o1 _⟩
            simp only [HasC, hd]
            exact .inl ⟨_, rfl⟩
          · have hlen0 := mapM_some_length he
            have hlen1 : elems.length = len := by simpa using hlen0
            have hx : ∀ i, i < cap → i = 0 ∨ i < len → ∃ us y, w.cells? 0 (a.add (i * P.cellsOf e)) (P.cellsOf e) = some us ∧ DataW.trod enc P w 0 (fun _ => true) true n e us = some y ∧ (∀ h : i < elems.length, y = elems[i]) := fun i hi hil => by
              by_cases hlt : i < len
              · have hg := mapM_some_get he i i (by simp [hlt])
                rw [List.getElem?_eq_getElem (by omega)] at hg
                obtain ⟨us, h1, h2⟩ := Option.bind_eq_some_iff.1 hg
                exact ⟨us, _, h1, h2, fun _ => rfl⟩
              · have e0 : i = 0 := by omega
                have l0 : len = 0 := by omega
                subst e0; subst l0
                have hg := mapM_some_get hr 0 0 (List.getElem?_range (by omega))
                have hlen := mapM_some_length hr
                rw [List.getElem?_eq_getElem (by simp at hlen; omega)] at hg
                obtain ⟨us, h1, h2⟩ := Option.bind_eq_some_iff.1 hg
                exact ⟨us, _, by simpa using h1, h2, fun h => by omega⟩
            obtain ⟨L, h1, h2, h3, h4⟩ := slice_readB (enc := enc) hB hT.1 (fun us y hy => ih e us y.1 y.2 hT.2 hy) hl hm (by omega) hlen1 hx
            refine ⟨[.fs false (L.map (valC P e))], ?_, VRL_1 rfl h3, ?_⟩
            · simp only [HasC, hd]
              exact .inr ⟨L, rfl, by omega, h2⟩
            · obtain ⟨rfl, _⟩ := hy
              have := hB.sl (elems.map (·.1)) (rest.map (·.1))
              simp only [wtL, wt]
              omega
      · simp only [okT, hd, Bool.and_eq_true, decide_eq_true_eq] at hT
        simp only [DataW.trod, hd] at h
        split at h <;> try simp_all
        · refine ⟨[.sc (.pointer none)], ?_, opq rfl, o1 _⟩
          simp [HasC, hd]
        · rename_i _ _ e a _
          by_cases hc : P.cellsOf e = 0
          · refine ⟨[.sc (.pointer (some a))], ?_, opq rfl, o1 _⟩
            simp only [HasC, hd]
            exact .inr (.inr ⟨hc, _, rfl⟩)
          obtain ⟨us, h1, h2⟩ := Option.bind_eq_some_iff.1 h
          simp only [Function.comp, Option.map_eq_some_iff] at h2
          obtain ⟨y1, h2, hy⟩ := h2
          obtain ⟨b, o, sp⟩ := a
          obtain ⟨h3, h4, rfl, h6⟩ := cells_at h1 (by omega)
          obtain ⟨cs, h7, h8, h9⟩ := ih e us _ _ hT h2
          refine ⟨[.fp (valC P e cs)], ?_, VRL_1 rfl ⟨b, o, us, rfl, h4, h6, ?_⟩, ?_⟩
          · simp only [HasC, hd]
            exact .inr (.inl ⟨cs, rfl, by rw [← h3]; exact (VRL_length h8).symm, h7⟩)
          · cases hde : P.underlying e with
            | none => cases n <;> simp [HasC, hde] at h7
            | some d => exact val_VRC hde (fun ha => h7.one hde ha) h8
          · cases hy
            have := hB.ptr y1.1
            have := wt_val h7
            simp only [wtL, wt]
            try simp only at h9
            omega
      · simp only [okT, hd, Bool.and_eq_true, List.all_eq_true, decide_eq_true_eq] at hT
        simp only [DataW.trod, hd] at h
        split at h
        · rename_i hlen
          obtain ⟨ys, hys, hy⟩ := Option.map_eq_some_iff.1 h
          obtain ⟨cs, h1, hw, h2⟩ := fields_readB hB ih us (P.cellsOf t) hlen fs.toList 0 ys hT.1 (Nat.zero_le _) hT.2 hys
          rw [List.drop_zero] at h1
          refine ⟨cs, ?_, h1, ?_⟩
          · simp only [HasC, hd]
            refine ⟨by rw [← hlen]; exact (VRL_length h1).symm, fun f hf => ?_⟩
            have := (h2 f hf).2
            rwa [Nat.sub_zero] at this
          · subst hy
            exact Nat.le_trans hw (hB.agg _)
        · cases h
      · simp only [okT, hd, Bool.and_eq_true, beq_iff_eq, decide_eq_true_eq] at hT
        simp only [DataW.trod, hd] at h
        split at h
        · rename_i hlen
          obtain ⟨ys, hys, hy⟩ := Option.map_eq_some_iff.1 h
          rw [List.range_eq_range'] at hys
          obtain ⟨cs, h1, hw, h2⟩ := array_readB hB (P.cellsOf e) (fun us y hy => ih e us y hT.2 hy) us k 0 ys (by rw [hlen, Nat.zero_add, hT.1]) hys
          rw [Nat.zero_mul, List.drop_zero] at h1
          refine ⟨cs, ?_, h1, ?_⟩
          · simp only [HasC, hd]
            exact ⟨by rw [← hlen]; exact (VRL_length h1).symm, h2⟩
          · subst hy
            exact Nat.le_trans hw (hB.agg _)
        · cases h
    · obtain ⟨cs, h1, h2⟩ := read_sound hok (n + 1) t us y ht h
      refine ⟨cs, h1, h2, ?_⟩
      cases hd : P.underlying t with
      | none => simp [HasC, hd] at h1
      | some d =>
        simp only [HasC, hd] at h1
        cases d with
        | slice e => exact absurd (.inl ⟨_, hd⟩) hs
        | pointer e => exact absurd (.inr (.inl ⟨_, hd⟩)) hs
        | struct fs => exact absurd (.inr (.inr (.inl ⟨_, hd⟩))) hs
        | array k e => exact absurd (.inr (.inr (.inr ⟨_, _, hd⟩))) hs
        | bool => obtain ⟨b, rfl⟩ := h1; exact o1 _
        | int k => obtain ⟨b, rfl, _⟩ := h1; exact o1 _
        | string => obtain ⟨b, rfl, _⟩ := h1; exact o1 _
        | _ => obtain ⟨v, rfl⟩ := h1; exact o1 _
end

section
variable {P : Program} {H : Type} {enc : TypeId × Value → H} {W W' : World} {B : DataW H → Nat} {BA : List (DataW H) → Nat}

theorem args_readB (hB : Bulk B BA) (hok : okTs P = true) {r : Reach} {b0 : Nat} : ∀ (ts : List TypeId) (vs : List Value) (ds : List (DataW H)) (ps : List MemPlace),
    (∀ t ∈ ts, t < P.types.size ∧ ∃ d, P.underlying t = some d) → (∀ (j : Nat) t v, ts[j]? = some t → vs[j]? = some v → Value.okWide P W r b0 t v) →
    DataW.TrodAll enc P W 0 (fun _ => true) true ts vs ds ps → ∃ css : List PV, VRV P (rdX W) css vs ∧ All2 (fun t c => IsArg P t c) ts css ∧ wtL css ≤ BA ds
  | [], [], [], _, _, _, _ => ⟨[], by simp [VRV], trivial, by simp [wtL]⟩
  | t :: ts, v :: vs, d :: ds, ps, h1, h2, h3 => by
    obtain ⟨p, q, h4, h5, _⟩ := h3
    obtain ⟨hlt, dd, hd⟩ := h1 t (by simp)
    obtain ⟨n, h4⟩ := h4
    obtain ⟨cs, h6, h7, h9⟩ := read_soundB hB hok n t _ _ hlt h4
    have hval := h2 0 t v rfl rfl
    have h3 := val_VRC hd (fun ha => h6.one hd ha) h7
    have hVR : VR P (rdX W) (valC P t cs) v := by
      unfold VR
      cases ha : aggD dd with
      | true =>
        have e1 : valC P t cs = .agg cs := by simp [valC, hd, ha]
        rw [e1] at h3 ⊢
        have hv : ∃ us, v = .agg us := by
          unfold Value.okWide at hval
          rw [hd] at hval
          cases dd with
          | struct fs => obtain ⟨us, e, _⟩ := hval; exact ⟨us, e⟩
          | array k e => obtain ⟨us, e, _⟩ := hval; exact ⟨us, e⟩
          | _ => cases ha
        obtain ⟨us, rfl⟩ := hv
        exact ⟨us.toList, by simp, h3⟩
      | false =>
        obtain ⟨c, rfl⟩ := h6.one hd ha
        have e1 : valC P t [c] = c := by simp [valC, hd, ha]
        rw [e1] at h3 ⊢
        have hv : ∀ us, v ≠ .agg us := by
          intro us e
          subst e
          have hcell : Cell.okWide P W r b0 t (.agg us) := by
            unfold Value.okWide at hval
            rw [hd] at hval
            cases dd with
            | struct fs => cases ha
            | array k e => cases ha
            | _ => exact hval
          unfold Cell.okWide at hcell
          rw [hd] at hcell
          have hno : ¬Cell.ok P W r b0 t (.agg us) := by
            unfold Cell.ok
            rw [hd]
            cases dd <;> exact fun h => h
          cases dd <;> exact hno hcell
        have hc : v.cells.toList = [v] := by cases v <;> first | rfl | exact absurd rfl (hv _)
        rw [hc] at h3
        have hag : c.isAgg = false := h6.flatCell hd ha
        rw [hag]
        exact h3
    obtain ⟨css, h8, h9', h10⟩ := args_readB hB hok ts vs ds q (fun t ht => h1 t (by simp [ht])) (fun j t v ht hv => h2 (j + 1) t v (by simpa using ht) (by simpa using hv)) h5
    refine ⟨valC P t cs :: css, ⟨hVR, h8⟩, ⟨⟨n, cs, h6, rfl⟩, h9'⟩, ?_⟩
    have := wt_val h6
    simp only [wtL]
    rw [hB.cons]
    simp only at h9
    omega
  | [], _ :: _, _, _, _, _, h => by simp [DataW.TrodAll] at h
  | [], [], _ :: _, _, _, _, h => by simp [DataW.TrodAll] at h
  | _ :: _, [], _, _, _, _, h => by simp [DataW.TrodAll] at h
  | _ :: _, _ :: _, [], _, _, _, h => by simp [DataW.TrodAll] at h

/-- **A law that answers true where the arguments are small, az0 its row asks.** -/
theorem law_trueB (hB : Bulk B BA) {N : Nat} {f : FuncId} {fn : Func} {s : ChangeSpec} {apart fresh handsOn : Bool} {t : TypeId} {args : Array Value} {ds gs : List (DataW H)} {before : List MemPlace} {r : Reach} {b0 : Nat}
    (hok : okTs P = true) (hl : laidOutB P = true) (hts : ∀ t ∈ fn.params.toList, P.readableRec t = true ∧ t < P.types.size ∧ ∃ d, P.underlying t = some d) (hrt : fn.resultTypes = #[t]) (ht : P.underlying t = some .bool)
    (hvars : s.vars = []) (hspec : s.fn H ds = { results := [.lit (.bool true)], args := ds })
    (hval : ∀ (j : Nat) t v, fn.params[j]? = some t → args[j]? = some v → Value.okWide P W r b0 t v)
    (hW : DataW.Whole enc P fn.params.toList s.vars apart W args.toList ds gs before) (hN : BA (ds ++ gs) ≤ N)
    (hf : ∀ css, All2 (fun t c => IsArg P t c) fn.params.toList css → wtL css ≤ N → FnR P f css (.sc (.bool true))) :
    Calls P f args W fun e W' => ∃ v, e = .returned v ∧ s.post enc P fn apart fresh handsOn false W args v W' := by
  have hlt := hW.lt
  have hW' := hW
  obtain ⟨p, q, hA, hV, hp, _, _⟩ := hW
  rw [hvars] at hV
  obtain ⟨rfl, rfl⟩ := Go.ChangeShapes.trodVars_none hV
  rw [List.append_nil] at hN
  obtain ⟨css, h1, h2, h3⟩ := args_readB hB hok fn.params.toList args.toList ds p (fun t ht => (hts t ht).2) (fun j t v ht hv => hval j t v (by simpa using ht) (by simpa using hv)) hA
  have hc := (hf css h2 (Nat.le_trans h3 hN)).2 W (fun b => b < W.heap.size) args.toList (fun b hb => hb) h1
  refine hc.mono fun e W₁ hh => ?_
  obtain ⟨v, y, rfl, rfl, g, hr⟩ := hh
  have hv : v = .bool true := sc_eq hr
  subst hv
  have hb : Below W.heap.size W y.w := g.below.toBelow
  refine ⟨_, rfl, ds, [], before, [], p, [], hW', ?_, ?_, ?_, Below.frame hb _, fun h => by cases h⟩
  · rw [List.append_nil, hspec, hrt]
    exact ⟨[], [], ⟨1, by simp [DataW.trod, ht, Value.cells, Value.resultList]⟩, rfl, rfl⟩
  · rw [List.append_nil, hspec]
    exact below_all hl hb _ _ _ _ (fun t ht => ⟨(hts t ht).1, (hts t ht).2.1⟩) (fun x hx => hlt x (by rw [hp]; simp [hx])) hA
  · rw [List.append_nil, hspec, hvars]
    rfl
end
end Go.Pb
