/-
  Plain library.
-/
import Derived.Test.YtkgnjpoafilicaaPbMem
/-
  Plain library, part 21: rows told by functions.
-/
set_option linter.unusedVariables false
set_option linter.unusedSimpArgs false
namespace Go.Pb
open Go Go.RowKit

def tab {α : Type} (n : Nat) (f : Nat → α) : List α := (List.range n).map f
section
variable {α β : Type} {n : Nat} {f : Nat → α}
theorem tab_length : (tab n f).length = n := by simp [tab]
theorem tab_get {k : Nat} (h : k < n) : (tab n f)[k]? = some (f k) := by simp [tab, h]
theorem tab_getElem {k : Nat} (h : k < (tab n f).length) : (tab n f)[k] = f k := by simp [tab]
theorem tab_rep {v : α} : List.replicate n v = tab n fun _ => v := by
  apply List.ext_getElem?
  intro i
  simp only [tab, List.getElem?_map, List.getElem?_replicate, List.getElem?_range]
  by_cases h : i < n
  · simp [h]
  · simp [h, List.getElem?_eq_none (show (List.range n).length ≤ i by simp; omega)]
theorem tab_succ : tab (n + 1) f = tab n f ++ [f n] := by simp [tab, List.range_succ]
theorem tab_map {g : α → β} : (tab n f).map g = tab n fun k => g (f k) := by simp [tab]
def updF (f : Nat → α) (j : Nat) (x : α) : Nat → α := fun k => if k = j then x else f k
theorem updF_eq {j : Nat} {x : α} : updF f j x j = x := by simp [updF]
theorem updF_ne {j k : Nat} {x : α} (h : k ≠ j) : updF f j x k = f k := by simp [updF, h]
theorem tab_set {j : Nat} {x : α} : (tab n f).set j x = tab n (updF f j x) := by
  apply List.ext_getElem?
  intro i
  rw [List.getElem?_set]
  by_cases h : i < n
  · by_cases e : j = i
    · subst e; rw [if_pos rfl, if_pos (by rw [tab_length]; exact h), tab_get h, updF_eq]
    · rw [if_neg e, tab_get h, tab_get h, updF_ne (fun e' => e e'.symm)]
  · have h1 : (tab n (updF f j x))[i]? = none := List.getElem?_eq_none (by rw [tab_length]; omega)
    have h2 : (tab n f)[i]? = none := List.getElem?_eq_none (by rw [tab_length]; omega)
    rw [h1, h2, tab_length]
    simp; intro e; omega
theorem tab_congr {g : Nat → α} (h : ∀ k, k < n → f k = g k) : tab n f = tab n g := by
  apply List.map_congr_left
  intro k hk
  exact h k (by simpa using hk)
theorem updF_comp {g : α → β} {j : Nat} {x : α} : (fun k => g (updF f j x k)) = updF (fun k => g (f k)) j (g x) := by
  funext k
  by_cases h : k = j
  · subst h; simp [updF]
  · simp [updF, h]
theorem list_tab (l : List α) (d : α) : l = tab l.length fun k => l.getD k d := by
  apply List.ext_getElem?
  intro i
  by_cases h : i < l.length
  · rw [tab_get h, List.getD_eq_getElem?_getD, List.getElem?_eq_getElem h]; rfl
  · rw [List.getElem?_eq_none (by omega), List.getElem?_eq_none (by rw [tab_length]; omega)]
end

theorem tab_one {n : Nat} {f : Nat → PV} (h : ∀ k, k < n → one (f k) = true) : (tab n f).all one = true := by
  rw [List.all_eq_true]
  intro x hx
  simp only [tab, List.mem_map, List.mem_range] at hx
  obtain ⟨k, hk, rfl⟩ := hx
  exact h k hk
theorem tab_closed {n : Nat} {f : Nat → PV} (h : ∀ k, k < n → closed (f k) = true) : closedL (tab n f) = true := by
  rw [closedL_all, List.all_eq_true]
  intro x hx
  simp only [tab, List.mem_map, List.mem_range] at hx
  obtain ⟨k, hk, rfl⟩ := hx
  exact h k hk

/-- A row given by a function, read through. -/
theorem tab_SlOf {α : Type} {R : α → PV → Prop} {n : Nat} {f : Nat → PV} {g : Nat → α} (h : ∀ k, k < n → R (g k) (f k)) (t : Bool) : SlOf R (tab n g) (.fs t (tab n f)) := by
  refine ⟨tab n f, .inr ⟨t, rfl⟩, ?_⟩
  induction n with
  | zero => trivial
  | succ n ih =>
    rw [tab_succ, tab_succ]
    have key : ∀ (l : List α) (es : List PV) (a : α) (e : PV), All2 R l es → R a e → All2 R (l ++ [a]) (es ++ [e]) := by
      intro l
      induction l with
      | nil => intro es a e h hr; cases es with
        | nil => exact ⟨hr, trivial⟩
        | cons _ _ => simp [All2] at h
      | cons b l ih => intro es a e h hr; cases es with
        | nil => simp [All2] at h
        | cons c es => exact ⟨h.1, ih es a e h.2 hr⟩
    exact key _ _ _ _ (ih fun k hk => h k (by omega)) (h n (by omega))

theorem deepL_of {P : Program} {h : Heap} : ∀ {cs ds : List PV}, cs.length = ds.length → (∀ k (h1 : k < cs.length) (h2 : k < ds.length), Deep P h cs[k] ds[k]) → DeepL P h cs ds
  | [], [], _, _ => trivial
  | [], _ :: _, h, _ => by simp at h
  | _ :: _, [], h, _ => by simp at h
  | c :: cs, d :: ds, h, hd => ⟨hd 0 (by simp) (by simp), deepL_of (by simpa using h) fun k h1 h2 => hd (k + 1) (by simpa using h1) (by simpa using h2)⟩

theorem deepL_closed {P : Program} {h : Heap} : ∀ {cs ds : List PV}, DeepL P h cs ds → closedL ds = true
  | [], [], _ => rfl
  | [], _ :: _, h => by simp [DeepL] at h
  | _ :: _, [], h => by simp [DeepL] at h
  | c :: cs, d :: ds, h => by simp [closedL, h.1.1, deepL_closed h.2]

theorem deepL_length {P : Program} {h : Heap} : ∀ {cs ds : List PV}, DeepL P h cs ds → cs.length = ds.length
  | [], [], _ => rfl
  | [], _ :: _, h => by simp [DeepL] at h
  | _ :: _, [], h => by simp [DeepL] at h
  | c :: cs, d :: ds, h => by simp [deepL_length h.2]

/-- The cells of own memory, az0 cells that nobody writes any more. -/
theorem deepL_VRL {P : Program} {h k : Heap} {w0 : World} {F0 : Nat → Prop} {x : Cx} (hk : Sub h k) (R : RelP P w0 F0 k x) : ∀ {cs ds : List PV} {us : List Value}, DeepL P h cs ds → cs.all one = true → ds.all one = true → VRL P x cs us → VRL P ⟨x.w, star w0 F0 x.w, noJ⟩ ds us
  | [], [], [], _, _, _, _ => by simp [VRL]
  | [], [], _ :: _, _, _, _, h => by simp [VRL] at h
  | [], _ :: _, _, h, _, _, _ => by simp [DeepL] at h
  | _ :: _, [], _, h, _, _, _ => by simp [DeepL] at h
  | c :: cs, d :: ds, [], _, _, _, h => by simp [VRL] at h
  | c :: cs, d :: ds, u :: us, hd, h1, h2, h => by
    simp only [List.all_cons, Bool.and_eq_true] at h1 h2
    simp only [VRL] at h ⊢
    refine ⟨h.1, ?_, deepL_VRL hk R hd.2 h1.2 h2.2 h.2.2⟩
    have := hd.1.2 k hk w0 F0 x u R (by unfold VR; rw [one_agg h1.1]; exact h.2.1)
    unfold VR at this
    rw [one_agg h2.1] at this
    exact this

theorem rowCells_closed : ∀ {es cs : List PV}, rowCells es = some cs → closedL cs = closedL es
  | [], cs, h => by simp only [rowCells, Option.some.injEq] at h; subst h; rfl
  | e :: es, cs, h => by
    simp only [rowCells] at h
    split at h
    · rename_i c d hce hd
      simp only [Option.some.injEq] at h
      subst h
      rw [closedL_app, closed_cells hce, rowCells_closed hd]
      rfl
    · cases h

/-- Own memory that holds own memory, handed out. -/
theorem deep_os2 {P : Program} {h : Heap} {id ver off n sz : Nat} {ty : TypeId} {mt : Bool} {cs ds es : List PV} (hb : h.bl[id]? = some (.cells ver ty mt cs)) (hl : off + n * sz ≤ cs.length) (hn : es.length = n)
    (hes : rowCells es = some ds) (hall : es.all (fun v => cnt v == some sz) = true) (hd : DeepL P h ((cs.drop off).take (n * sz)) ds) (h1 : cs.all one = true) (h2 : ds.all one = true) : Deep P h (.os id ver off n) (.fs false es) := by
  have hc := deepL_closed hd
  refine ⟨by simpa [closed, rowCells_closed hes] using hc, fun k hk w0 F0 x u R hv => ?_⟩
  simp only [VR, AsVal, PV.isAgg, VRC, List.cons.injEq, and_true] at hv
  obtain ⟨b, cap, hj, rfl, h1', h2', _⟩ := hv
  obtain ⟨cur, hcur, hcl, hvr⟩ := own_cells R (hk _ _ hb) hj
  have hown := R.own _ _ _ hj
  have hF : (⟨x.w, star w0 F0 x.w, noJ⟩ : Cx).F b := .inr hown
  refine ⟨b, off, cap, sz, by rw [hn], by omega, h2', by simp, ?_⟩
  have hseg := VRL_seg hcl hvr off (n * sz) hl
  have hone : ((cs.drop off).take (n * sz)).all one = true := by
    rw [List.all_eq_true] at h1 ⊢
    intro v hv
    exact h1 v (List.mem_of_mem_drop (List.mem_of_mem_take hv))
  exact VRM_of_cells hF hes hall (cellsAt_row hcur off (n * sz)) (deepL_VRL hk R hd hone h2 hseg)

/-- A table of one-celled values of own memory, handed out. -/
theorem deep_tab {P : Program} {h : Heap} {id ver n : Nat} {ty : TypeId} {mt : Bool} {f g : Nat → PV} (hb : h.bl[id]? = some (.cells ver ty mt (tab n f))) (hd : ∀ k, k < n → Deep P h (f k) (g k)) (h1 : ∀ k, k < n → one (f k) = true) (h2 : ∀ k, k < n → one (g k) = true) : Deep P h (.os id ver 0 n) (.fs false (tab n g)) := by
  refine deep_os2 (sz := 1) hb (by rw [tab_length]; omega) tab_length (rowCells_one (tab_one h2)) ?_ ?_ (tab_one h1) (tab_one h2)
  · rw [List.all_eq_true]
    intro x hx
    have := tab_one h2
    rw [List.all_eq_true] at this
    simp [one_cnt (this x hx)]
  · rw [List.drop_zero, List.take_of_length_le (by rw [tab_length]; omega)]
    refine deepL_of (by rw [tab_length, tab_length]) fun k h3 h4 => ?_
    rw [tab_getElem, tab_getElem]
    exact hd k (by simpa [tab_length] using h3)

theorem mkSlice_t {h : Heap} {e : TypeId} {b n : Nat} {v : PV} {k k' : IntKind} (hf : fits n b = true) : mkSliceR h e b [v] (.sc (.int k (n : Int))) (.sc (.int k' (n : Int))) = some (.os h.bl.length h.nv 0 n, ⟨h.nv + 1, h.bl ++ [.cells h.nv e true (tab n fun _ => v)]⟩) := by
  rw [mkSlice_1 hf, tab_rep]
theorem load_t {h : Heap} {id ver off n : Nat} {ty : TypeId} {mt : Bool} {f : Nat → PV} (hb : h.bl[id]? = some (.cells ver ty mt (tab n f))) (hc : off < n) (ho : one (f off) = true) : loadR h 1 false (.op id ver off) = some (f off) :=
  load_op hb (tab_get hc) ho
theorem store_t {h : Heap} {id ver off n : Nat} {ty : TypeId} {f : Nat → PV} {c : PV} (hb : h.bl[id]? = some (.cells ver ty true (tab n f))) (hlt : off < n) (ho : one c = true) : storeR h 1 (.op id ver off) c = some (.tup [], ⟨h.nv, h.bl.set id (.cells ver ty true (tab n (updF f off c)))⟩) := by
  rw [store_op hb (by rw [tab_length]; exact hlt) ho, tab_set]

end Go.Pb
