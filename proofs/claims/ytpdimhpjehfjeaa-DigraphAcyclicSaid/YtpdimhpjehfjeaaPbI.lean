/-
  Plain library.
-/
import Derived.Test.YtpdimhpjehfjeaaPbV
import Derived.Laws.IdiomCopy
/-
  Plain library: slices.Insert of one element and slices.Delete at the front, at lists of numbers, by the kit's own contracts.
-/
set_option linter.unusedVariables false
set_option linter.unusedSimpArgs false
namespace Go.Pb
open Go Go.RowKit
theorem setIf_list : ∀ (l : List Value) (o : Nat) (v : Value), o < l.length → l.set o v = l.take o ++ v :: l.drop (o + 1)
  | [], _, _, h => by simp at h
  | x :: l, 0, v, _ => by simp
  | x :: l, o + 1, v, h => by simp [setIf_list l o v (by simpa using h)]
theorem heap_setCell {w : World} {b o : Nat} {v : Value} {cur : Array Value} {ty : TypeId} {fr : Nat × Nat} (hc : w.heap[b]? = some (.cells cur ty fr)) : w.setCell ⟨b, o, none⟩ v = w.setRow b (cur.setIfInBounds o v) := by
  unfold World.setCell World.setRow
  congr 1
  apply Array.ext_getElem?
  intro k
  simp only [Array.getElem?_modify]
  by_cases hk : b = k
  · subst hk
    simp [hc]
  · simp [hk]
theorem setRow_setRow {w : World} {b : Nat} {c1 c2 : Array Value} : (w.setRow b c1).setRow b c2 = w.setRow b c2 := by
  unfold World.setRow
  congr 1
  apply Array.ext_getElem?
  intro k
  simp only [Array.getElem?_modify]
  by_cases hk : b = k
  · subst hk
    simp only [if_true, Option.map_map]
    congr 1
    funext o
    cases o <;> rfl
  · simp [hk]
/-- Cells set one by one are a row laid anew. -/
theorem setCells_row {b : Nat} {ty : TypeId} {fr : Nat × Nat} : ∀ (vs : List Value) (o : Nat) (w : World) (cur : Array Value), w.heap[b]? = some (.cells cur ty fr) → o + vs.length ≤ cur.size → w.setCells b o vs = w.setRow b (cur.toList.take o ++ vs ++ cur.toList.drop (o + vs.length)).toArray
  | [], o, w, cur, hc, _ => by
    simp only [World.setCells, List.append_nil, List.length_nil, Nat.add_zero, List.take_append_drop]
    unfold World.setRow
    have : w.heap.modify b (fun x => match x with | .cells _ e f => .cells cur.toList.toArray e f | o => o) = w.heap := by
      apply Array.ext_getElem?
      intro k
      simp only [Array.getElem?_modify]
      by_cases hk : b = k
      · subst hk
        simp [hc]
      · simp [hk]
    cases w
    simp_all
    exact this.symm
  | v :: r, o, w, cur, hc, hl => by
    simp only [List.length_cons] at hl
    rw [World.setCells, heap_setCell hc]
    have h2 : (w.setRow b (cur.setIfInBounds o v)).heap[b]? = some (.cells (cur.setIfInBounds o v) ty fr) := setRow_heap _ _ _ _ _ _ hc
    rw [setCells_row r (o + 1) _ _ h2 (by simp; omega), setRow_setRow]
    congr 2
    have hs : (cur.setIfInBounds o v).toList = cur.toList.take o ++ v :: cur.toList.drop (o + 1) := by
      rw [Array.toList_setIfInBounds]
      exact setIf_list _ _ _ (by simp; omega)
    have hlt : (cur.toList.take o).length = o := by simp; omega
    rw [hs]
    have e1 : (cur.toList.take o ++ v :: cur.toList.drop (o + 1)).take (o + 1) = cur.toList.take o ++ [v] := by
      rw [List.take_append]
      simp [hlt, List.take_take]
    have e2 : (cur.toList.take o ++ v :: cur.toList.drop (o + 1)).drop (o + 1 + r.length) = cur.toList.drop (o + (r.length + 1)) := by
      rw [List.drop_append, hlt]
      have : (cur.toList.take o).drop (o + 1 + r.length) = [] := List.drop_eq_nil_of_le (by rw [hlt]; omega)
      rw [this, show o + 1 + r.length - o = r.length + 1 by omega]
      simp only [List.nil_append, List.drop_succ_cons, List.drop_drop]
      congr 1
      omega
    rw [e1, e2]
    simp
/-- The kit's contract of slices.Insert, as it is laid. -/
structure InsC (P : Program) (g : FuncId) (ty : TypeId) : Prop where
  shift : ∀ (b off n c i vb voff m vc : Nat) (cs vs : List Value) (w : World) (hi : i < n) (hm : 0 < m) (hroom : n + m ≤ c) (hc63 : c ≤ 9223372036854775807) (hvb : vb ≠ b)
    (hcl : cs.length = n) (hvl : vs.length = m)
    (hcs : ∀ j v, cs[j]? = some v → w.cell? ⟨b, off + j, none⟩ = some v) (hsp : ∀ j, j < n + m → (w.cell? ⟨b, off + j, none⟩).isSome = true) (hfz : ∀ j, j < n + m → w.frozen? ⟨b, off + j, none⟩ = false)
    (hvs : ∀ j v, vs[j]? = some v → w.cell? ⟨vb, voff + j, none⟩ = some v) (h1c : ∀ v ∈ cs, v.oneCell' = true) (h1v : ∀ v ∈ vs, v.oneCell' = true)
    (tA tB : TypeId) (kA kB : Nat) (hsa : w.shape? vb = some (tA, kA)) (hsb : w.shape? b = some (tB, kB)) (hkB : kB ≠ 0) (hfa : w.frozen? ⟨vb, voff, none⟩ = false) (hfe : w.frozen? ⟨vb, kA, none⟩ = false),
    Calls P g #[.slice (some ⟨b, off, none⟩) n c, .int .i64 i, .slice (some ⟨vb, voff, none⟩) m vc] w fun e w' =>
      e = .returned (.slice (some ⟨b, off, none⟩) (n + m) c) ∧ w' = (w.drew.setCells b (off + (i + m)) (cs.drop i)).setCells b (off + i) vs
  room : ∀ (b off n c vb voff m vc : Nat) (vs : List Value) (w : World) (hm : 0 < m) (hroom : n + m ≤ c) (hc63 : c ≤ 9223372036854775807)
    (hvl : vs.length = m) (hsp : ∀ j, j < m → (w.cell? ⟨b, off + n + j, none⟩).isSome = true) (hfz : ∀ j, j < m → w.frozen? ⟨b, off + n + j, none⟩ = false)
    (hvs : ∀ j v, vs[j]? = some v → w.cell? ⟨vb, voff + j, none⟩ = some v) (h1v : ∀ v ∈ vs, v.oneCell' = true),
    Calls P g #[.slice (some ⟨b, off, none⟩) n c, .int .i64 n, .slice (some ⟨vb, voff, none⟩) m vc] w fun e w' =>
      e = .returned (.slice (some ⟨b, off, none⟩) (n + m) c) ∧ w' = w.setCells b (off + n) vs
  endg : ∀ (base : Option Addr) (n c vb voff m vc : Nat) (cs vs : List Value) (w : World) (hm : 0 < m) (hnc : n ≤ c) (hroom : c < n + m) (hbig : (n + m) * 8 ≤ 140737488355328)
    (hcl : cs.length = n) (hvl : vs.length = m) (hnil : base = none → n = 0)
    (hcs : ∀ a, base = some a → ∀ j v, cs[j]? = some v → w.cell? (a.add j) = some v)
    (hvs : ∀ j v, vs[j]? = some v → w.cell? ⟨vb, voff + j, none⟩ = some v) (h1v : ∀ v ∈ vs, v.oneCell' = true),
    Calls P g #[.slice base n c, .int .i64 n, .slice (some ⟨vb, voff, none⟩) m vc] w fun e w' =>
      e = .returned (.slice (some ⟨w.heap.size, 0, none⟩) (n + m) (grownCap w (n + m) c ty)) ∧
      w' = w.drew.alloc (.cells ((cs ++ vs).toArray ++ Builtin.zeroCells (Value.int .i64 0).cells (grownCap w (n + m) c ty - (n + m))) ty)
  grow : ∀ (b off n c i vb voff m vc : Nat) (cs vs : List Value) (w : World) (hi : i < n) (hm : 0 < m) (hnc : n ≤ c) (hroom : c < n + m) (hbig : (n + m) * 8 ≤ 140737488355328)
    (hcl : cs.length = n) (hvl : vs.length = m)
    (hcs : ∀ j v, cs[j]? = some v → w.cell? ⟨b, off + j, none⟩ = some v)
    (hvs : ∀ j v, vs[j]? = some v → w.cell? ⟨vb, voff + j, none⟩ = some v) (h1c : ∀ v ∈ cs, v.oneCell' = true) (h1v : ∀ v ∈ vs, v.oneCell' = true),
    Calls P g #[.slice (some ⟨b, off, none⟩) n c, .int .i64 i, .slice (some ⟨vb, voff, none⟩) m vc] w fun e w' =>
      e = .returned (.slice (some ⟨w.heap.size, 0, none⟩) (n + m) (grownCap w (n + m) c ty)) ∧
      w' = (((w.alloc (.cells ((cs.take i).toArray ++ Builtin.zeroCells (Value.int .i64 0).cells (n + m - i) ++ Builtin.zeroCells (Value.int .i64 0).cells (grownCap w (n + m) c ty - (n + m))) ty)).drew.setCells w.heap.size i vs).drew).setCells w.heap.size (i + m) (cs.drop i)
/-- What a call of Insert leaves: the row laid anew, or a new one. -/
def InsQ (b : Nat) (cap : Nat) (ty : TypeId) (w : World) (n : Nat) (us : List Value) (tail : List Value) (e : Ending) (w' : World) : Prop :=
  (∃ q, e = .returned (.slice (some ⟨b, 0, none⟩) (n + 1) cap) ∧ n + 1 ≤ cap ∧ w' = (Go.Sort.ahead w q).setRow b (us ++ tail).toArray) ∨
  (∃ q, ∃ zs : List Value, cap < n + 1 ∧ e = .returned (.slice (some ⟨w.heap.size, 0, none⟩) (n + 1) (grownCap w (n + 1) cap ty)) ∧ zs.length = grownCap w (n + 1) cap ty - (n + 1) ∧ w' = (Go.Sort.ahead w q).alloc (.cells (us ++ zs).toArray ty))
theorem alloc_setRow {w : World} {c c' : Array Value} {ty : TypeId} {k : Nat} (hk : k = w.heap.size) : (w.alloc (.cells c ty)).setRow k c' = w.alloc (.cells c' ty) := by
  subst hk
  unfold World.setRow World.alloc
  congr 1
  apply Array.ext_getElem?
  intro k
  simp only [Array.getElem?_modify, Array.getElem?_push]
  by_cases hk : k = w.heap.size
  · subst hk; simp
  · simp [hk, Ne.symm hk]
theorem list_shift {us cur : List Value} {n i : Nat} {u : Value} (htk : cur.take n = us) (hul : us.length = n) (hi : i ≤ n) (hl : n + 1 ≤ cur.length) :
    (cur.take (0 + (i + 1)) ++ us.drop i ++ cur.drop (0 + (i + 1) + (us.drop i).length)).take (0 + i) ++ [u] ++ (cur.take (0 + (i + 1)) ++ us.drop i ++ cur.drop (0 + (i + 1) + (us.drop i).length)).drop (0 + i + [u].length) = us.take i ++ u :: us.drop i ++ cur.drop (n + 1) := by
  have e1 : (cur.take (0 + (i + 1))).length = i + 1 := by simp; omega
  have e2 : (us.drop i).length = n - i := by simp [hul]
  rw [e2, List.append_assoc (cur.take _), List.take_append_of_le_length (by rw [e1]; omega), List.take_take, show min (0 + i) (0 + (i + 1)) = i by omega, show 0 + i + [u].length = i + 1 by simp, List.drop_append, e1, show 0 + (i + 1) + (n - i) = n + 1 by omega, Nat.sub_self, List.drop_zero]
  have e3 : (cur.take (0 + (i + 1))).drop (i + 1) = [] := List.drop_eq_nil_of_le (by rw [e1]; exact Nat.le_refl _)
  have e4 : cur.take i = us.take i := by rw [← htk, List.take_take, show min i n = i by omega]
  rw [e3, e4]
  simp
section
variable {P : Program} {g : FuncId} {ty : TypeId}
theorem cell_row {w : World} {b : Nat} {cur : Array Value} {t : TypeId} {fr : Nat × Nat} (hc : w.heap[b]? = some (.cells cur t fr)) (j : Nat) : w.cell? ⟨b, j, none⟩ = cur[j]? := by
  simp only [World.cell?, hc, Option.isSome_none, Bool.false_eq_true, if_false]
theorem ins_world (C : InsC P g ty) {w : World} {b vb n cap vc i : Nat} {cur cv : Array Value} {us : List Value} {u : Value} {tv : TypeId}
    (hc : w.heap[b]? = some (.cells cur ty (0, 0))) (hv : w.heap[vb]? = some (.cells cv tv (0, 0))) (hne : vb ≠ b) (hcap : cur.size = cap) (hn : n ≤ cap) (hul : us.length = n) (htk : cur.toList.take n = us)
    (hcv : cv[0]? = some u) (hi : i ≤ n) (hbig : n < 1000000) (hmax : cap ≤ maxLen) (h1 : ∀ x ∈ us, x.oneCell' = true) (h1v : u.oneCell' = true) :
    Calls P g #[.slice (some ⟨b, 0, none⟩) n cap, .int .i64 i, .slice (some ⟨vb, 0, none⟩) 1 vc] w (InsQ b cap ty w n (us.take i ++ u :: us.drop i) (cur.toList.drop (n + 1))) := by
  have hm63 : cap ≤ 9223372036854775807 := by unfold maxLen at hmax; omega
  have hcs : ∀ j v, us[j]? = some v → w.cell? ⟨b, 0 + j, none⟩ = some v := fun j v hj => by
    rw [cell_row hc, Nat.zero_add, ← Array.getElem?_toList]
    rw [← htk, List.getElem?_take] at hj
    split at hj
    · exact hj
    · cases hj
  have hsp : ∀ j, j < cap → (w.cell? ⟨b, 0 + j, none⟩).isSome = true := fun j hj => by
    rw [cell_row hc, Nat.zero_add, Array.getElem?_eq_getElem (by omega)]; rfl
  have hfz : ∀ j, w.frozen? ⟨b, 0 + j, none⟩ = false := fun j => by simp [World.frozen?, hc]
  have hvs : ∀ j v, [u][j]? = some v → w.cell? ⟨vb, 0 + j, none⟩ = some v := fun j v hj => by
    cases j with
    | zero => simp only [List.getElem?_cons_zero, Option.some.injEq] at hj; subst hj; rw [cell_row hv]; exact hcv
    | succ j => simp at hj
  have h1v' : ∀ x ∈ [u], x.oneCell' = true := fun x hx => by simp at hx; rw [hx]; exact h1v
  have hcd : w.drew.heap[b]? = some (.cells cur ty (0, 0)) := hc
  rcases Nat.lt_or_eq_of_le hi with hlt | rfl
  · by_cases hroom : n + 1 ≤ cap
    · refine (C.shift b 0 n cap i vb 0 1 vc us [u] w hlt (by omega) hroom hm63 hne hul rfl hcs (fun j hj => hsp j (by omega)) (fun j _ => hfz j) hvs h1 h1v' tv ty cv.size cur.size (by simp [World.shape?, hv]) (by simp [World.shape?, hc]) (by omega) (by simp [World.frozen?, hv]) (by simp [World.frozen?, hv])).mono ?_
      rintro e w' ⟨rfl, rfl⟩
      refine .inl ⟨1, rfl, hroom, ?_⟩
      have hdl : (us.drop i).length = n - i := by simp [hul]
      rw [setCells_row (us.drop i) (0 + (i + 1)) w.drew cur hcd (by rw [hdl]; omega), setCells_row [u] (0 + i) _ _ (setRow_heap _ _ _ _ _ _ hcd) (by
        have hx : (cur.toList.take (0 + (i + 1)) ++ us.drop i ++ cur.toList.drop (0 + (i + 1) + (us.drop i).length)).length = cur.size := by
          simp only [List.length_append, List.length_take, List.length_drop, Array.length_toList, hul]; omega
        rw [List.size_toArray, hx]; simp only [List.length_singleton]; omega), setRow_setRow]
      have := list_shift (u := u) htk hul hi (by simp; omega)
      rw [this]
      rfl
    · refine (C.grow b 0 n cap i vb 0 1 vc us [u] w hlt (by omega) hn (by omega) (by omega) hul rfl hcs hvs h1 h1v').mono ?_
      rintro e w' ⟨rfl, rfl⟩
      have hge := grownCap_ge w (n + 1) cap ty
      unfold InsQ
      generalize grownCap w (n + 1) cap ty = G at hge ⊢
      have hzs : (Builtin.zeroCells (Value.int .i64 0).cells (n + 1 - i)).size = n + 1 - i := by rw [size_zeroCells]; simp [Value.cells]
      have hzs2 : (Builtin.zeroCells (Value.int .i64 0).cells (G - (n + 1))).size = G - (n + 1) := by rw [size_zeroCells]; simp [Value.cells]
      refine .inr ⟨2, (Builtin.zeroCells (Value.int .i64 0).cells (G - (n + 1))).toList, by omega, rfl, by rw [Array.length_toList, hzs2], ?_⟩
      generalize hA : ((us.take i).toArray ++ Builtin.zeroCells (Value.int .i64 0).cells (n + 1 - i) ++ Builtin.zeroCells (Value.int .i64 0).cells (G - (n + 1))) = A
      have hsA : A.size = G := by rw [← hA]; simp only [Array.size_append, List.size_toArray, List.length_take, hzs, hzs2]; omega
      have hw1 : ((w.alloc (.cells A ty)).drew).heap[w.heap.size]? = some (.cells A ty (0, 0)) := heap_alloc_new w _
      have hdl : (us.drop i).length = n - i := by simp [hul]
      have hAl : A.toList = us.take i ++ (Builtin.zeroCells (Value.int .i64 0).cells (n + 1 - i)).toList ++ (Builtin.zeroCells (Value.int .i64 0).cells (G - (n + 1))).toList := by rw [← hA]; simp
      rw [setCells_row [u] i _ _ hw1 (by rw [hsA]; simp; omega)]
      generalize hB : (A.toList.take i ++ [u] ++ A.toList.drop (i + [u].length)) = B
      have hBl : B.length = G := by rw [← hB]; simp only [List.length_append, List.length_take, List.length_drop, Array.length_toList, hsA, List.length_singleton]; omega
      have hw2 : (((w.alloc (.cells A ty)).drew.setRow w.heap.size B.toArray).drew).heap[w.heap.size]? = some (.cells B.toArray ty (0, 0)) := setRow_heap _ _ _ _ _ _ hw1
      rw [setCells_row (us.drop i) (i + 1) _ _ hw2 (by rw [hdl, List.size_toArray, hBl]; omega)]
      have hl1 : (us.take i).length = i := by simp; omega
      have hl2 : (Builtin.zeroCells (Value.int .i64 0).cells (n + 1 - i)).toList.length = n + 1 - i := by rw [Array.length_toList, hzs]
      have hfin : B.toArray.toList.take (i + 1) ++ us.drop i ++ B.toArray.toList.drop (i + 1 + (us.drop i).length) = us.take i ++ u :: us.drop i ++ (Builtin.zeroCells (Value.int .i64 0).cells (G - (n + 1))).toList := by
        have e1 : A.toList.take i = us.take i := by
          rw [hAl, List.append_assoc, List.take_append_of_le_length (by rw [hl1]; exact Nat.le_refl _), List.take_of_length_le (by rw [hl1]; exact Nat.le_refl _)]
        have e2 : B.take (i + 1) = us.take i ++ [u] := by
          rw [← hB, e1, List.take_append_of_le_length (by simp; omega), List.take_of_length_le (by simp; omega)]
        have e3 : B.drop (n + 1) = (Builtin.zeroCells (Value.int .i64 0).cells (G - (n + 1))).toList := by
          rw [← hB, e1, List.drop_append, List.drop_eq_nil_of_le (by simp; omega), List.nil_append, List.drop_drop, hAl, List.append_assoc, List.drop_append, List.drop_eq_nil_of_le (by simp; omega), List.nil_append, List.drop_append, List.drop_eq_nil_of_le (by rw [hl2]; simp; omega), List.nil_append]
          rw [show (i + [u].length + (n + 1 - (us.take i ++ [u]).length) - (us.take i).length - (Builtin.zeroCells (Value.int .i64 0).cells (n + 1 - i)).toList.length) = 0 by rw [hl2, List.length_append, hl1, List.length_singleton]; omega, List.drop_zero]
        show B.take (i + 1) ++ us.drop i ++ B.drop (i + 1 + (us.drop i).length) = _
        rw [e2, hdl, show i + 1 + (n - i) = n + 1 by omega, e3]
        simp
      rw [hfin]
      show ((w.drew.drew.alloc (.cells A ty)).setRow w.heap.size B.toArray).setRow w.heap.size _ = _
      rw [setRow_setRow]
      exact alloc_setRow (w := w.drew.drew) rfl
  · by_cases hroom : i + 1 ≤ cap
    · refine (C.room b 0 i cap vb 0 1 vc [u] w (by omega) hroom hm63 rfl (fun j hj => by rw [Nat.add_assoc]; exact hsp _ (by omega)) (fun j _ => by rw [Nat.add_assoc]; exact hfz _) hvs h1v').mono ?_
      rintro e w' ⟨rfl, rfl⟩
      refine .inl ⟨0, rfl, hroom, ?_⟩
      rw [setCells_row [u] (0 + i) w cur hc (by simp; omega), Nat.zero_add, htk]
      have h2 : us.take i = us := List.take_of_length_le (by omega)
      have h3 : us.drop i = [] := List.drop_eq_nil_of_le (by omega)
      rw [h2, h3]
      rfl
    · refine (C.endg (some ⟨b, 0, none⟩) i cap vb 0 1 vc us [u] w (by omega) hn (by omega) (by omega) hul rfl (fun h => by cases h) (fun a ha j v hj => by
        cases ha
        have := hcs j v hj
        rwa [Addr.add_lit]) hvs h1v').mono ?_
      rintro e w' ⟨rfl, rfl⟩
      have hzs2 : (Builtin.zeroCells (Value.int .i64 0).cells (grownCap w (i + 1) cap ty - (i + 1))).size = grownCap w (i + 1) cap ty - (i + 1) := by rw [size_zeroCells]; simp [Value.cells]
      refine .inr ⟨1, (Builtin.zeroCells (Value.int .i64 0).cells (grownCap w (i + 1) cap ty - (i + 1))).toList, by omega, rfl, by rw [Array.length_toList, hzs2], ?_⟩
      have h2 : us.take i = us := List.take_of_length_le (by omega)
      have h3 : us.drop i = [] := List.drop_eq_nil_of_le (by omega)
      rw [h2, h3]
      have : (us ++ [u]).toArray ++ Builtin.zeroCells (Value.int .i64 0).cells (grownCap w (i + 1) cap ty - (i + 1)) = (us ++ [u] ++ (Builtin.zeroCells (Value.int .i64 0).cells (grownCap w (i + 1) cap ty - (i + 1))).toList).toArray := by
        apply Array.ext'
        simp
      rw [this]
      rfl
theorem Grow.ahead (x : Cx) : ∀ (q : Nat), Grow x ⟨Go.Sort.ahead x.w q, x.F, x.J⟩
  | 0 => Grow.refl x
  | q + 1 => (Grow.ahead x q).trans (Grow.drew ⟨Go.Sort.ahead x.w q, x.F, x.J⟩)
theorem one_ints (l : List Int) : ∀ x ∈ l.map (Value.int .i64), x.oneCell' = true := fun x hx => by
  obtain ⟨y, _, rfl⟩ := List.mem_map.1 hx
  rfl
theorem row_ints : ∀ (l : List Int), rowCells (l.map vi) = some ((l.map (Value.int .i64)).map .sc)
  | [] => rfl
  | x :: l => by simp only [List.map_cons, rowCells, row_ints l]; rfl
theorem insert_X {h : Heap} (he : Enters P g) (C : InsC P g ty) (hty : P.cellsOf ty = 1) {l : List Int} {y : Int} {a v : PV} {es ev : List PV} {R : List Ent} {i : Int} (q : All2 tI.R l es) (ne : isL a = true) (wi : Wri a es) (qv : All2 tI.R [y] ev) (wv : Wri v ev)
    (h0 : 0 ≤ i) (hi : i ≤ l.length) (hl : l.length < 1000000) (M : Mem h (⟨a, ty, 1, es⟩ :: ⟨v, ty, 1, ev⟩ :: R)) :
    ∃ r h2, FnX P g [a, vi i, v] h r h2 ∧ ∃ es', Mem h2 (⟨r, ty, 1, es'⟩ :: ⟨v, ty, 1, ev⟩ :: R) ∧ All2 tI.R (l.take i.toNat ++ y :: l.drop i.toNat) es' ∧ isL r = true ∧ Wri r es' := by
  obtain ⟨k, rfl⟩ : ∃ k : Nat, i = (k : Int) := ⟨i.toNat, by omega⟩
  rw [Int.toNat_natCast]
  have hes : es = l.map vi := all2_map (fun x v h => h) q
  have hev : ev = [vi y] := all2_map (l := [y]) (mk := vi) (fun x v h => h) qv
  obtain ⟨iv, vv, nv, rfl⟩ : ∃ iv vv nv, v = .os iv vv 0 nv := by
    rcases wv with h | ⟨id, ver, n, rfl⟩
    · rw [hev] at h; cases h
    · exact ⟨_, _, _, rfl⟩
  obtain ⟨hvc, hnv, csv, hcsv, hbv⟩ := M.atF (k := 1) rfl
  rw [hev] at hcsv hnv
  have hnv1 : nv = 1 := hnv
  subst hnv1
  have hcsv1 : csv = [.sc (.int .i64 y)] := by simp [rowCells, PV.cellsOf, vi] at hcsv; exact hcsv.symm
  subst hcsv1
  -- the value handed over
  have hval : ∀ {w0 : World} {F0 : Nat → Prop} {x : Cx} {uv : Value}, RelP P w0 F0 h x → VR P x (.os iv vv 0 1) uv → ∃ vb vc cv, x.J iv vv = some vb ∧ uv = .slice (some ⟨vb, 0, none⟩) 1 vc ∧ x.w.heap[vb]? = some (.cells cv ty (0, 0)) ∧ cv[0]? = some (.int .i64 y) := by
    intro w0 F0 x uv R0 hu
    simp only [VR, AsVal, PV.isAgg, VRC, List.cons.injEq, and_true] at hu
    obtain ⟨vb, vc, hj, rfl, -, -, -⟩ := hu
    obtain ⟨cv, hcv, hcl, hvr⟩ := own_cells R0 hbv hj
    have := VRL_sc_eq (us := [Value.int .i64 y]) hvr
    refine ⟨vb, vc, cv, hj, rfl, hcv, ?_⟩
    rw [← Array.getElem?_toList]
    have h2 := congrArg (fun l => l[0]?) this
    simpa [List.getElem?_take] using h2
  have hus : (l.map (Value.int .i64)).length = l.length := by simp
  -- the row that comes of it
  have hnews : rowCells ((l.take k ++ y :: l.drop k).map vi) = some (((l.take k ++ y :: l.drop k).map (Value.int .i64)).map .sc) := row_ints _
  have hnm : (l.take k ++ y :: l.drop k).map (Value.int .i64) = (l.map (Value.int .i64)).take k ++ .int .i64 y :: (l.map (Value.int .i64)).drop k := by simp
  have hnl : (l.take k ++ y :: l.drop k).length = l.length + 1 := by simp; omega
  have hcn : ∀ x ∈ (l.take k ++ y :: l.drop k).map vi, cnt x = some 1 := fun x hx => by
    obtain ⟨z, _, rfl⟩ := List.mem_map.1 hx
    rfl
  have hnew1 : ∀ u ∈ (l.map (Value.int .i64)).take k ++ Value.int .i64 y :: (l.map (Value.int .i64)).drop k, u.oneCell' = true := by rw [← hnm]; exact one_ints _
  generalize hnu : (l.map (Value.int .i64)).take k ++ Value.int .i64 y :: (l.map (Value.int .i64)).drop k = nu at hnm hnew1
  have hnul : nu.length = l.length + 1 := by rw [← hnm, List.length_map, hnl]
  rw [hnm] at hnews
  by_cases hos : ∃ id ver n, a = .os id ver 0 n
  · obtain ⟨id, ver, n, rfl⟩ := hos
    obtain ⟨hac, hn, cs, hcs, hb⟩ := M.atF (k := 0) rfl
    rw [hes, row_ints] at hcs
    simp only [Option.some.injEq] at hcs
    subst hcs
    rw [hes, List.length_map] at hn
    subst hn
    have hid : id ≠ iv := fun e => by
      have := pairwise_other M.dis (k := 0) (j := 1) (e := ⟨.os id ver 0 l.length, ty, 1, es⟩) rfl (by decide) rfl
      exact this id rfl (by simp [idOf, e])
    refine ⟨.os id h.nv 0 (l.length + 1), hgrow h id (.cells h.nv ty true (nu.map .sc)), ⟨he, fun w0 F0 x cargs R0 hv => ?_⟩, _, M.upd (k := 0) (e' := ⟨.os id h.nv 0 (l.length + 1), ty, 1, (l.take k ++ y :: l.drop k).map vi⟩) rfl ⟨hcn, by simp only [EntV]; exact ⟨by rw [List.length_map, hnl], _, hnews, blk_grow _ _ _ (blk_lt hb)⟩⟩ (fun i hi => .inl hi) (fun i hi hne' => blk_grow_ne _ _ _ _ fun e => hne' (by simp [idOf, e])), map_all2 (R := tI.R) (fun x => rfl) _, rfl, .inr ⟨_, _, _, rfl⟩⟩
    match cargs, hv with
    | [ua, ui, uv], hv =>
      simp only [VRV, and_true] at hv
      obtain ⟨hua, hui, huv⟩ := hv
      have hui' : ui = .int .i64 k := sc_eq hui
      subst hui'
      obtain ⟨vb, vc, cv, hjv, rfl, hcv, hcv0⟩ := hval R0 huv
      simp only [AsVal, PV.isAgg, VRC, List.cons.injEq, and_true] at hua
      obtain ⟨b, cap, hj, rfl, hcap, hmax, hsz⟩ := hua
      obtain ⟨cur, hcur, hcl, hvr⟩ := own_cells R0 hb hj
      obtain ⟨cur', ty', fr', hcur', hcs'⟩ := hsz trivial
      rw [hcur] at hcur'
      simp only [Option.some.injEq, Obj.cells.injEq] at hcur'
      obtain ⟨rfl, rfl, rfl⟩ := hcur'
      rw [hty, Nat.mul_one] at hcs'
      have htk := VRL_sc_eq hvr
      simp only [List.length_map] at htk hcl
      have hbne : vb ≠ b := fun e => hid (R0.inj id iv _ _ b hb hbv hj (by rw [← e]; exact hjv))
      have hW := ins_world C (w := x.w) (vc := vc) (i := k) hcur hcv hbne hcs' hcap hus htk hcv0 (by omega) hl hmax (one_ints l) rfl
      rw [hnu] at hW
      refine hW.mono ?_
      rintro e w' (⟨qq, rfl, hroom, rfl⟩ | ⟨qq, zs, hroom, rfl, hzl, rfl⟩)
      · have gd := Grow.ahead x qq
        have Rd := R0.grow gd
        have Ed := R0.ext_of_grow gd
        have hszz : (nu ++ cur.toList.drop (l.length + 1)).toArray.size = cur.size := by simp [hnul]; omega
        obtain ⟨R', E⟩ := Rd.setOwn (ds := nu.map .sc) (us := (nu ++ cur.toList.drop (l.length + 1)).toArray) (t := ty) hb hj hcur hszz (by rw [hszz, List.length_map, hnul]; omega) (by
          rw [List.length_map]
          show VRL P _ _ ((nu ++ _).take nu.length)
          rw [List.take_left']
          · exact VRL_sc P _ nu (by rw [List.all_eq_true]; exact hnew1)
          · rfl) (.inr ⟨rfl, rfl⟩) (bl' := h.bl.set id (.cells h.nv ty true (nu.map .sc))) bl_set
        exact ⟨_, .os id h.nv 0 (l.length + 1), _, _, rfl, rfl, ⟨rfl, rfl⟩, R', Ed.trans E, ⟨b, cap, updJ_new, rfl, hroom, hmax, fun _ => ⟨_, ty, (0, 0), setRow_heap _ _ _ _ _ _ hcur, by rw [hszz, hcs', hty, Nat.mul_one]⟩⟩⟩
      · have gd := Grow.ahead x qq
        have Rd := R0.grow gd
        have Ed := R0.ext_of_grow gd
        have hge := grownCap_ge x.w (l.length + 1) cap ty
        have hszz : (nu ++ zs).toArray.size = grownCap x.w (l.length + 1) cap ty := by simp [hnul, hzl]; omega
        obtain ⟨R', E⟩ := Rd.newOwn (t := ty) (id := id) (cs := nu.map .sc) (us := (nu ++ zs).toArray) (by rw [hszz, List.length_map, hnul]; exact hge) (by
          rw [List.length_map]
          show VRL P _ _ ((nu ++ _).take nu.length)
          rw [List.take_left']
          · exact VRL_sc P _ nu (by rw [List.all_eq_true]; exact hnew1)
          · rfl) (bl' := h.bl.set id (.cells h.nv ty true (nu.map .sc))) bl_set
        exact ⟨_, .os id h.nv 0 (l.length + 1), _, _, rfl, rfl, ⟨rfl, rfl⟩, R', Ed.trans E, ⟨x.w.heap.size, grownCap x.w (l.length + 1) cap ty, updJ_new, rfl, hge, grownCap_le_maxLen x.w (l.length + 1) cap ty (by simp only [maxLen]; omega), fun _ => ⟨_, ty, (0, 0), heap_alloc_new (Go.Sort.ahead x.w qq) _, by rw [hszz, hty, Nat.mul_one]⟩⟩⟩
  · have hl0 : es = [] := by
      rcases wi with h | h
      · exact h
      · exact absurd h hos
    subst hl0
    have hl' : l = [] := by
      cases l with
      | nil => rfl
      | cons _ _ => simp at hes
    subst hl'
    have hk0 : k = 0 := by simp at hi; omega
    subst hk0
    have HE := M.at (k := 0) rfl
    have hua' : ∀ {x : Cx} {ua : Value}, VR P x a ua → ∃ base, ua = .slice base 0 0 := by
      intro x ua hu
      have H2 := HE.2
      unfold EntV at H2
      split at H2
      · rename_i hv'; simp only at hv'; rw [hv'] at ne; cases ne
      · rename_i id ver n hv'
        exact absurd ⟨_, _, _, hv'⟩ hos
      · rename_i ad hv'
        simp only at hv'
        subst hv'
        exact ⟨_, sc_eq hu⟩
      · rename_i es' hv'
        simp only at hv' H2
        subst hv' H2
        simp only [VR, AsVal, PV.isAgg, VRC, List.cons.injEq, and_true, List.length_nil] at hu
        obtain ⟨b, o, cap, sz, rfl, -, -, ht, -⟩ := hu
        rw [ht trivial]
        exact ⟨_, rfl⟩
      · rename_i hv'; simp only at hv'; rw [hv'] at ne; cases ne
      · exact H2.elim
    have hnu1 : nu = [.int .i64 y] := by rw [← hnu]; rfl
    refine ⟨.os (hlen h) h.nv 0 1, hnew h (.cells h.nv ty true (nu.map .sc)), ⟨he, fun w0 F0 x cargs R0 hv => ?_⟩, [vi y], M.upd (k := 0) (e' := ⟨.os (hlen h) h.nv 0 1, ty, 1, [vi y]⟩) rfl ⟨fun x hx => by simp at hx; subst hx; rfl, by simp only [EntV]; exact ⟨rfl, [.sc (.int .i64 y)], rfl, by rw [hnu1]; simp⟩⟩ (fun i hi => .inr (by simp [idOf] at hi; omega)) (fun i hi _ => by simp [hi]), ⟨rfl, trivial⟩, rfl, .inr ⟨_, _, _, rfl⟩⟩
    match cargs, hv with
    | [ua, ui, uv], hv =>
      simp only [VRV, and_true] at hv
      obtain ⟨hua, hui, huv⟩ := hv
      have hui' : ui = .int .i64 0 := sc_eq hui
      subst hui'
      obtain ⟨vb, vc, cv, hjv, rfl, hcv, hcv0⟩ := hval R0 huv
      obtain ⟨base, rfl⟩ := hua' hua
      refine (C.endg base 0 0 vb 0 1 vc [] [.int .i64 y] x.w (by omega) (Nat.le_refl _) (by omega) (by omega) rfl rfl (fun _ => rfl) (fun a _ j v hj => by simp at hj) (fun j v hj => by
        cases j with
        | zero => simp only [List.getElem?_cons_zero, Option.some.injEq] at hj; subst hj; rw [cell_row hcv]; exact hcv0
        | succ j => simp at hj) (fun u hu => by simp at hu; rw [hu]; rfl)).mono ?_
      rintro e w' ⟨rfl, rfl⟩
      have gd := Grow.drew x
      have Rd := R0.grow gd
      have Ed := R0.ext_of_grow gd
      have hge := grownCap_ge x.w (0 + 1) 0 ty
      have hzs2 : (Builtin.zeroCells (Value.int .i64 0).cells (grownCap x.w (0 + 1) 0 ty - (0 + 1))).size = grownCap x.w (0 + 1) 0 ty - (0 + 1) := by rw [size_zeroCells]; simp [Value.cells]
      have hszz : ((([] : List Value) ++ [Value.int .i64 y]).toArray ++ Builtin.zeroCells (Value.int .i64 0).cells (grownCap x.w (0 + 1) 0 ty - (0 + 1))).size = grownCap x.w (0 + 1) 0 ty := by rw [Array.size_append, hzs2]; show 1 + (grownCap x.w (0 + 1) 0 ty - (0 + 1)) = _; omega
      obtain ⟨R', E⟩ := Rd.newOwn (t := ty) (id := h.bl.length) (cs := nu.map .sc) (us := (([] : List Value) ++ [Value.int .i64 y]).toArray ++ Builtin.zeroCells (Value.int .i64 0).cells (grownCap x.w (0 + 1) 0 ty - (0 + 1))) (by rw [hszz, hnu1]; exact hge) (by
        rw [hnu1]
        simp only [Array.toList_append, List.nil_append]
        exact VRL_sc P _ [Value.int .i64 y] rfl) (bl' := h.bl ++ [.cells h.nv ty true (nu.map .sc)]) bl_append
      exact ⟨_, .os h.bl.length h.nv 0 1, _, _, rfl, rfl, ⟨rfl, rfl⟩, R', Ed.trans E, ⟨x.w.heap.size, grownCap x.w (0 + 1) 0 ty, updJ_new, rfl, hge, grownCap_le_maxLen x.w (0 + 1) 0 ty (by simp only [maxLen]; omega), fun _ => ⟨_, ty, (0, 0), heap_alloc_new x.w.drew _, by rw [hszz, hty, Nat.mul_one]⟩⟩⟩
/-- The first is taken away. -/
theorem delete_X {h : Heap} (he : Enters P g) (hty : P.cellsOf ty = 1)
    (H : ∀ (blk off cap i j : Nat) (zs : List Int) (w : World), Go.Sort.Holds (Value.int .i64) w blk off zs.toArray → zs.length ≤ cap → cap ≤ 9223372036854775807 → i ≤ j → j ≤ zs.length → Calls P g #[.slice (some ⟨blk, off, none⟩) zs.length cap, .int .i64 i, .int .i64 j] w fun e w' => e = .returned (.slice (some ⟨blk, off, none⟩) (zs.length - (j - i)) cap) ∧ ∃ q, w' = Go.Sort.putRow (Value.int .i64) (Go.Sort.ahead w q) blk off (zs.take i ++ zs.drop j ++ List.replicate (j - i) 0).toArray)
    {l : List Int} {a : PV} {es : List PV} {R : List Ent} (q : All2 tI.R l es) (ne : isL a = true) (wi : Wri a es) (hl0 : 0 < l.length) (M : Mem h (⟨a, ty, 1, es⟩ :: R)) :
    ∃ r h2, FnX P g [a, vi 0, vi 1] h r h2 ∧ ∃ es', Mem h2 (⟨r, ty, 1, es'⟩ :: R) ∧ All2 tI.R (l.drop 1) es' ∧ isL r = true ∧ Wri r es' := by
  have hes : es = l.map vi := all2_map (fun x v h => h) q
  obtain ⟨id, ver, n, rfl⟩ : ∃ id ver n, a = .os id ver 0 n := by
    rcases wi with h | h
    · rw [hes] at h; simp at h; rw [h] at hl0; simp at hl0
    · exact h
  obtain ⟨hac, hn, cs, hcs, hb⟩ := M.atF (k := 0) rfl
  rw [hes, row_ints] at hcs
  simp only [Option.some.injEq] at hcs
  subst hcs
  rw [hes, List.length_map] at hn
  subst hn
  have hdl : (l.drop 1).length = l.length - 1 := by simp
  refine ⟨.os id h.nv 0 (l.length - 1), hgrow h id (.cells h.nv ty true (((l.drop 1).map (Value.int .i64)).map .sc)), ⟨he, fun w0 F0 x cargs R0 hv => ?_⟩, _, M.upd (k := 0) (e' := ⟨.os id h.nv 0 (l.length - 1), ty, 1, (l.drop 1).map vi⟩) rfl ⟨fun x hx => by
    obtain ⟨z, _, rfl⟩ := List.mem_map.1 hx
    rfl, by simp only [EntV]; exact ⟨by rw [List.length_map, hdl], _, row_ints _, blk_grow _ _ _ (blk_lt hb)⟩⟩ (fun i hi => .inl hi) (fun i hi hne' => blk_grow_ne _ _ _ _ fun e => hne' (by simp [idOf, e])), map_all2 (R := tI.R) (fun x => rfl) _, rfl, .inr ⟨_, _, _, rfl⟩⟩
  match cargs, hv with
  | [ua, ui, uj], hv =>
    simp only [VRV, and_true] at hv
    obtain ⟨hua, hui, huj⟩ := hv
    have hui' : ui = .int .i64 (0 : Nat) := sc_eq hui
    have huj' : uj = .int .i64 (1 : Nat) := sc_eq huj
    subst hui' huj'
    simp only [AsVal, PV.isAgg, VRC, List.cons.injEq, and_true] at hua
    obtain ⟨b, cap, hj, rfl, hcap, hmax, hsz⟩ := hua
    obtain ⟨cur, hcur, hcl, hvr⟩ := own_cells R0 hb hj
    obtain ⟨cur', ty', fr', hcur', hcs'⟩ := hsz trivial
    rw [hcur] at hcur'
    simp only [Option.some.injEq, Obj.cells.injEq] at hcur'
    obtain ⟨rfl, rfl, rfl⟩ := hcur'
    rw [hty, Nat.mul_one] at hcs'
    have htk := VRL_sc_eq hvr
    simp only [List.length_map] at htk hcl
    refine (H b 0 cap 0 1 l x.w (holds_int (holds_flat hcur (by rw [List.length_map]; exact htk))) hcap (by unfold maxLen at hmax; omega) (by omega) hl0).mono ?_
    rintro e w' ⟨rfl, qq, rfl⟩
    have gd := Grow.ahead x qq
    have Rd := R0.grow gd
    have Ed := R0.ext_of_grow gd
    have hcur2 : (Go.Sort.ahead x.w qq).heap[b]? = some (.cells cur ty (0, 0)) := hcur
    have hzl : ((l.take 0 ++ l.drop 1 ++ List.replicate (1 - 0) (0 : Int)).map (Value.int .i64)).length = l.length := by simp; omega
    have hzp : ((l.take 0 ++ l.drop 1 ++ List.replicate (1 - 0) (0 : Int)).map (Value.int .i64)).take (l.length - 1) = (l.drop 1).map (Value.int .i64) := by
      simp only [List.take_zero, List.nil_append, List.map_append]
      rw [List.take_append_of_le_length (by simp), List.take_of_length_le (by simp)]
    rw [putRow_int]
    generalize (l.take 0 ++ l.drop 1 ++ List.replicate (1 - 0) (0 : Int)).map (Value.int .i64) = z at hzl hzp ⊢
    rw [putRow_flat (us := z) hcur2 (by omega)]
    generalize hus : (z ++ cur.toList.drop z.length).toArray = us
    have hszz : us.size = cur.size := by rw [← hus]; simp; omega
    have hpre : us.toList.take (l.length - 1) = (l.drop 1).map (Value.int .i64) := by
      rw [← hus]
      show (z ++ cur.toList.drop z.length).take (l.length - 1) = _
      rw [List.take_append_of_le_length (by omega), hzp]
    obtain ⟨R', E⟩ := Rd.setOwn (ds := ((l.drop 1).map (Value.int .i64)).map .sc) (us := us) (t := ty) hb hj hcur hszz (by rw [hszz, List.length_map, List.length_map, hdl]; omega) (by
      rw [List.length_map, List.length_map, hdl, hpre]
      exact VRL_sc P _ _ (by rw [List.all_eq_true]; exact one_ints _)) (.inr ⟨rfl, rfl⟩) (bl' := h.bl.set id (.cells h.nv ty true (((l.drop 1).map (Value.int .i64)).map .sc))) bl_set
    exact ⟨_, .os id h.nv 0 (l.length - 1), _, _, rfl, rfl, ⟨rfl, rfl⟩, R', Ed.trans E, ⟨b, cap, updJ_new, rfl, by omega, hmax, fun _ => ⟨_, ty, (0, 0), setRow_heap _ _ _ _ _ _ hcur, by rw [hszz, hcs', hty, Nat.mul_one]⟩⟩⟩
end
end Go.Pb
