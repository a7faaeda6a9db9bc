/-
  Hand-written texts in one.
-/
import Derived.Test.YtpdimhpjehfjeaaKHb
import Derived.Test.YtpdimhpjehfjeaaKGbOrSpDsUsOk
set_option linter.unusedVariables false
set_option linter.unusedSimpArgs false
set_option maxRecDepth 100000
namespace Go.Proofs.Ytpdimhpjehfjeaa
open Go Go.Pb Go.RowKit
theorem hts_use {g : List (List Int)} {y : List Int × Bool} (hg : Gd g.length g) (hn : g.length ≤ 24) (hc : Clx g) (h : digraph_heights g = y) : y.2 = true → y.1.length = g.length ∧ WB y.1 100000 := fun e => by
  subst h
  unfold digraph_heights at e ⊢
  simp only [Bool.not_eq_true', decide_eq_false_iff_not] at e
  simp only [e, if_false]
  refine ⟨htsL_len _ _, fun k _ _ => ?_⟩
  have := (hts_eq hg (vs := (digraph_order g).reverse) (fun v hv => (ord_rg hc hn v (List.mem_reverse.1 hv)).1) (by rw [List.length_reverse]; exact ord_len hc hn)).2 k
  omega
theorem foldl_max_mem : ∀ (l : List Int) (a : Int), l.foldl max a = a ∨ l.foldl max a ∈ l
  | [], a => .inl rfl
  | b :: l, a => by
    rw [List.foldl_cons]
    rcases foldl_max_mem l (max a b) with h | h
    · rw [h]
      rcases Int.le_total a b with q | q
      · rw [Int.max_eq_right q]; exact .inr List.mem_cons_self
      · rw [Int.max_eq_left q]; exact .inl rfl
    · exact .inr (List.mem_cons_of_mem _ h)
theorem foldl_max_ge : ∀ (l : List Int) (a : Int), a ≤ l.foldl max a ∧ ∀ b ∈ l, b ≤ l.foldl max a
  | [], a => ⟨Int.le_refl _, fun b hb => by cases hb⟩
  | b :: l, a => by
    rw [List.foldl_cons]
    obtain ⟨h1, h2⟩ := foldl_max_ge l (max a b)
    refine ⟨by omega, fun c hc => ?_⟩
    rcases List.mem_cons.1 hc with rfl | hc
    · omega
    · exact h2 c hc
theorem max_use {l : List Int} {m : Int} (h0 : 0 < l.length) (h : slices_Max__int_int_ l = m) : m ∈ l ∧ ∀ b ∈ l, b ≤ m := by
  subst h
  unfold slices_Max__int_int_ maxL
  cases l with
  | nil => simp at h0
  | cons a l =>
    simp only [List.headD_cons]
    refine ⟨?_, (foldl_max_ge _ _).2⟩
    rcases foldl_max_mem (a :: l) a with h | h
    · rw [h]; exact List.mem_cons_self
    · exact h
theorem idx_L1 (l : List Int) (m : Int) (K : Unit → Int) (hm : m ∈ l) : ∀ (k : Nat) (i : Int), k = Int.toNat ((l.length : Int) - i) → 0 ≤ i → (∀ j : Int, 0 ≤ j → j < i → ix l j ≠ m) →
    0 ≤ slices_Index__int_int__L1 l m K k i ∧ slices_Index__int_int__L1 l m K k i < l.length ∧ ix l (slices_Index__int_int__L1 l m K k i) = m ∧ ∀ j : Int, 0 ≤ j → j < slices_Index__int_int__L1 l m K k i → ix l j ≠ m
  | 0, i, hk, h0, hj => by
    obtain ⟨j, j0, j1, e⟩ := mem_ix hm
    exact absurd e (hj j j0 (by omega))
  | k + 1, i, hk, h0, hj => by
    rw [slices_Index__int_int__L1]
    by_cases hc : m = ix l i
    · rw [if_pos (by simpa using hc)]
      exact ⟨h0, by omega, hc.symm, hj⟩
    · rw [if_neg (by simpa using hc)]
      refine idx_L1 l m K hm k (i + 1) (by omega) (by omega) fun j j0 j1 => ?_
      by_cases e : j = i
      · rw [e]; exact fun q => hc q.symm
      · exact hj j j0 (by omega)
theorem idx_use {l : List Int} {m y : Int} (hm : m ∈ l) (h : slices_Index__int_int_ l m = y) : 0 ≤ y ∧ y < l.length ∧ ix l y = m ∧ ∀ j : Int, 0 ≤ j → j < y → ix l j ≠ m := by
  subst h
  exact idx_L1 l m _ hm _ 0 rfl (Int.le_refl _) fun j j0 j1 => by omega
theorem desc_L2 (g : List (List Int)) (r : List Int) (v : Int) (K1 : Int → List Int → List Int) (K2 : List Int → List Int) : ∀ (m : Nat) (x i : Int) (z : List Int), digraph_descend_L2 g r v K1 K2 m x i z = K2 z ∨ ∃ w, digraph_descend_L2 g r v K1 K2 m x i z = K1 w (z ++ [w])
  | 0, x, i, z => .inl (by rw [digraph_descend_L2])
  | m + 1, x, i, z => by
    rw [digraph_descend_L2]
    split
    · exact .inr ⟨_, rfl⟩
    · exact desc_L2 g r v K1 K2 m x (i + 1) z
theorem desc_L1 (g : List (List Int)) (r : List Int) : ∀ (m : Nat) (v : Int) (z : List Int), (digraph_descend_L1 g r (fun z => z) m v z).length ≤ z.length + m
  | 0, v, z => by rw [digraph_descend_L1]; simp
  | m + 1, v, z => by
    rw [digraph_descend_L1]
    split
    · rcases desc_L2 g r v (fun a b => digraph_descend_L1 g r (fun z => z) m a b) (fun z => z) (Int.toNat (((ix g v).length : Int) - 0)) v 0 z with h | ⟨w, h⟩
      · rw [h]; omega
      · rw [h]
        have := desc_L1 g r m w (z ++ [w])
        rw [List.length_append, List.length_singleton] at this
        omega
    · omega
theorem desc_len {g : List (List Int)} {r y : List Int} {v b : Int} (hb : WB r b) (h0 : 0 ≤ v) (h1 : v < r.length) (h2 : b ≤ 100000) (h : digraph_descend g r v = y) : y.length ≤ 100001 := by
  subst h
  have := desc_L1 g r (Int.toNat (ix r v)) v [v]
  have := hb v h0 h1
  unfold digraph_descend
  simp only [List.length_singleton] at *
  omega
theorem rd_L4s (g : List (List Int)) (k v : Int) (K : List Int → List Int) : ∀ (m : Nat) (w : Int) (z : List Int), 0 ≤ ix z v → ref06_distances_L4 g k v K m w z = K z
  | 0, w, z, h => by rw [ref06_distances_L4]
  | m + 1, w, z, h => by
    rw [ref06_distances_L4, if_neg]
    simp only [Bool.and_eq_true, decide_eq_true_eq]
    omega
theorem rd_L4 (g : List (List Int)) (k v : Int) (hk : 0 ≤ k) (hk1 : k ≤ 1000) (v0 : 0 ≤ v) (v1 : v < g.length) (K : List Int → List Int) : ∀ (m : Nat) (w : Int) (z : List Int), m = Int.toNat ((g.length : Int) - w) → 0 ≤ w → z.length = g.length →
    ∃ z', ref06_distances_L4 g k v K m w z = K z' ∧ ((z' = z ∧ (0 ≤ ix z v ∨ ∀ x : Int, w ≤ x → x < g.length → ¬ (ix z x = k ∧ Ed g v x))) ∨ (ix z v < 0 ∧ (∃ x : Int, 0 ≤ x ∧ x < g.length ∧ ix z x = k ∧ Ed g v x) ∧ z' = z.set v.toNat (k + 1)))
  | 0, w, z, hm, h0, hz => ⟨z, by rw [ref06_distances_L4], .inl ⟨rfl, .inr fun x a b => by omega⟩⟩
  | m + 1, w, z, hm, h0, hz => by
    rw [ref06_distances_L4]
    by_cases hc : 0 ≤ ix z v
    · rw [if_neg (by simp only [Bool.and_eq_true, decide_eq_true_eq]; omega)]
      exact ⟨z, rfl, .inl ⟨rfl, .inl hc⟩⟩
    · rw [if_pos (by simp only [Bool.and_eq_true, decide_eq_true_eq]; omega)]
      by_cases he : ix z w = k ∧ Ed g v w
      · rw [if_pos (by simp only [Bool.and_eq_true, decide_eq_true_eq]; exact ⟨he.1, (edge_eq g v w).2 he.2⟩), wr_of (by omega) (by omega)]
        refine ⟨z.set v.toNat (k + 1), rd_L4s g k v K m (w + 1) _ ?_, .inr ⟨by omega, ⟨w, h0, by omega, he.1, he.2⟩, rfl⟩⟩
        rw [ix_set v0 (by omega) v0, if_pos rfl]; omega
      · rw [if_neg (by simp only [Bool.and_eq_true, decide_eq_true_eq]; exact fun q => he ⟨q.1, (edge_eq g v w).1 q.2⟩)]
        obtain ⟨z', e, h⟩ := rd_L4 g k v hk hk1 v0 v1 K m (w + 1) z (by omega) (by omega) hz
        refine ⟨z', e, ?_⟩
        rcases h with ⟨a, b | b⟩ | h
        · exact .inl ⟨a, .inl b⟩
        · refine .inl ⟨a, .inr fun x x0 x1 => ?_⟩
          by_cases ex : x = w
          · rw [ex]; exact he
          · exact b x (by omega) x1
        · exact .inr h
/-- What is known of a node when distances up to k are told. -/
def St (A : Int → Int → Prop) (s : Int) (k : Nat) (v x : Int) : Prop := (x = -1 ∧ ∀ j, j ≤ k → ¬ Wk A s j v) ∨ ∃ j : Nat, j ≤ k ∧ x = j ∧ Mn A s j v
theorem rd_L3 (g : List (List Int)) (s : Int) (k : Nat) (hk1 : k ≤ 1000) (K : List Int → List Int) : ∀ (m : Nat) (i : Int) (z : List Int), m = Int.toNat ((g.length : Int) - i) → 0 ≤ i → i ≤ g.length → z.length = g.length →
    (∀ v : Int, 0 ≤ v → v < g.length → St (fun u v => Ed g v u) s (if v < i then k + 1 else k) v (ix z v)) →
    ∃ z', ref06_distances_L3 g k K m i z = K z' ∧ z'.length = g.length ∧ ∀ v : Int, 0 ≤ v → v < g.length → St (fun u v => Ed g v u) s (k + 1) v (ix z' v)
  | 0, i, z, hm, h0, h1, hz, hs => ⟨z, by rw [ref06_distances_L3], hz, fun v v0 v1 => by have := hs v v0 v1; rwa [if_pos (by omega)] at this⟩
  | m + 1, i, z, hm, h0, h1, hz, hs => by
    have i1 : i < g.length := by omega
    have a1 : m = Int.toNat ((g.length : Int) - (i + 1)) := by omega
    have a2 : 0 ≤ i + 1 := by omega
    have a3 : i + 1 ≤ g.length := by omega
    rw [ref06_distances_L3]
    obtain ⟨z', e, h⟩ := rd_L4 g k i (by omega) (by omega) h0 i1 (fun z => ref06_distances_L3 g k K m (i + 1) z) (Int.toNat ((g.length : Int) - 0)) 0 z rfl (Int.le_refl _) hz
    rw [e]
    have hi := hs i h0 i1
    rw [if_neg (by omega)] at hi
    have hz' : z'.length = g.length := by
      rcases h with ⟨rfl, _⟩ | ⟨_, _, rfl⟩
      · exact hz
      · rw [List.length_set]; exact hz
    refine rd_L3 g s k hk1 K m (i + 1) z' a1 a2 a3 hz' fun v v0 v1 => ?_
    by_cases ev : v = i
    · subst ev
      rw [if_pos (by omega)]
      rcases h with ⟨rfl, h⟩ | ⟨hn, ⟨x, x0, x1, hx, hxe⟩, rfl⟩
      · rcases hi with ⟨a, b⟩ | ⟨j, a, b, d⟩
        · rcases h with h | h
          · omega
          · refine .inl ⟨a, fun j hj hw => ?_⟩
            by_cases hjk : j ≤ k
            · exact b j hjk hw
            · have ej : j = k + 1 := by omega
              subst ej
              obtain ⟨u, hu, ha⟩ := hw
              have hur := hs u ha.2.2.1 ha.2.2.2.1
              rcases hur with ⟨_, c⟩ | ⟨j, c1, c2, c3⟩
              · exact c k (by split <;> omega) hu
              · have hjk := c3.2 k hu
                by_cases e2 : j = k
                · subst e2
                  exact h u ha.2.2.1 ha.2.2.2.1 ⟨c2, ha⟩
                · exact b (j + 1) (by omega) ⟨u, c3.1, ha⟩
        · exact .inr ⟨j, by omega, b, d⟩
      · right
        rw [ix_set v0 (by omega) v0, if_pos rfl]
        rcases hi with ⟨a, b⟩ | ⟨j, _, b, _⟩
        · rcases hs x x0 x1 with ⟨c, _⟩ | ⟨j, c1, c2, c3⟩
          · omega
          · have ej : j = k := by omega
            subst ej
            exact ⟨j + 1, Nat.le_refl _, by omega, ⟨x, c3.1, hxe⟩, fun q hq => by
              rcases Nat.lt_or_ge j q with r | r
              · omega
              · exact absurd hq (b q r)⟩
        · omega
    · have hsame : ix z' v = ix z v := by
        rcases h with ⟨rfl, _⟩ | ⟨_, _, rfl⟩
        · rfl
        · rw [ix_set v0 (by omega) h0, if_neg ev]
      have := hs v v0 v1
      rw [hsame]
      by_cases hv : v < i
      · rw [if_pos hv] at this; rw [if_pos (by omega)]; exact this
      · rw [if_neg hv] at this; rw [if_neg (by omega)]; exact this
theorem rd_L2 (g : List (List Int)) (s : Int) (hn : g.length ≤ 1000) (K : List Int → List Int) : ∀ (m : Nat) (k : Nat) (z : List Int), m = Int.toNat ((g.length : Int) - k) → k ≤ g.length → z.length = g.length →
    (∀ v : Int, 0 ≤ v → v < g.length → St (fun u v => Ed g v u) s k v (ix z v)) →
    ∃ z', ref06_distances_L2 g K m k z = K z' ∧ z'.length = g.length ∧ ∀ v : Int, 0 ≤ v → v < g.length → St (fun u v => Ed g v u) s g.length v (ix z' v)
  | 0, k, z, hm, h1, hz, hs => by
    have e : k = g.length := by omega
    subst e
    exact ⟨z, by rw [ref06_distances_L2], hz, hs⟩
  | m + 1, k, z, hm, h1, hz, hs => by
    rw [ref06_distances_L2]
    obtain ⟨z', e, hz', hs'⟩ := rd_L3 g s k (by omega) (fun z => ref06_distances_L2 g K m (k + 1) z) (Int.toNat ((g.length : Int) - 0)) 0 z rfl (Int.le_refl _) (by omega) hz (fun v v0 v1 => by rw [if_neg (by omega)]; exact hs v v0 v1)
    rw [e]
    exact rd_L2 g s hn K m (k + 1) z' (by omega) (by omega) hz' hs'
theorem rfill_L1 (K : List Int → List Int) : ∀ (m : Nat) (i : Int) (z : List Int), m = Int.toNat ((z.length : Int) - i) → 0 ≤ i → i ≤ z.length → NB z i → ∃ z', ref06_distances_L1 K m i z = K z' ∧ z'.length = z.length ∧ NB z' z.length
  | 0, i, z, hm, h0, h1, h => ⟨z, by rw [ref06_distances_L1], rfl, h.mono (by omega)⟩
  | m + 1, i, z, hm, h0, h1, h => by
    rw [ref06_distances_L1]
    obtain ⟨z', a, b, c⟩ := rfill_L1 K m (i + 1) (z.set i.toNat (-1)) (by rw [List.length_set]; omega) (by omega) (by rw [List.length_set]; omega) (h.next h0 (by omega))
    rw [List.length_set] at b c
    exact ⟨z', a, b, c⟩
theorem rdist_ds (g : List (List Int)) (s : Int) (hn : g.length ≤ 1000) : Ds g.length (fun u v => Ed g v u) s (ref06_distances g s) := by
  unfold ref06_distances
  obtain ⟨z, e, hl, hb⟩ := rfill_L1 (fun (zE102_107 : List Int) =>
      if ((decide (s < 0)) || (decide ((g.length : Int) ≤ s))) then
        zE102_107
      else
      ref06_distances_L2 g (fun (zE102_134 : List Int) =>
          zE102_134) (Int.toNat ((g.length : Int) - 0)) 0 (zE102_107.set (s).toNat 0)) (Int.toNat ((g.length : Int) - 0)) 0 (List.replicate g.length (0 : Int)) (by simp) (Int.le_refl _) (by omega) NB.nil
  rw [e]
  rw [List.length_replicate] at hl hb
  by_cases hs : 0 ≤ s ∧ s < g.length
  · rw [if_neg (by simp only [Bool.or_eq_true, decide_eq_true_eq]; omega)]
    have hsl : (z.set s.toNat 0).length = g.length := by rw [List.length_set]; exact hl
    obtain ⟨z', e2, hz', hst⟩ := rd_L2 g s hn (fun (zE102_134 : List Int) => zE102_134) (Int.toNat ((g.length : Int) - 0)) 0 (z.set s.toNat 0) rfl (Nat.zero_le _) hsl (fun v v0 v1 => by
      rw [ix_set v0 (by omega) hs.1]
      split
      · rename_i e
        exact .inr ⟨0, Nat.le_refl _, rfl, e, fun j _ => Nat.zero_le _⟩
      · rename_i e
        refine .inl ⟨hb v v0 v1, fun j hj hw => ?_⟩
        obtain rfl : j = 0 := by omega
        exact e hw)
    rw [show ((0 : Nat) : Int) = 0 from rfl] at e2
    rw [e2]
    refine ⟨hz', fun v v0 v1 => ?_⟩
    have hlt : ∀ {k : Nat}, Mn (fun u v => Ed g v u) s k v → k < g.length := fun h => mn_lt (fun u v a => ⟨a.1, a.2.1⟩) hs h
    rcases hst v v0 v1 with ⟨a, b⟩ | ⟨j, a, b, d⟩
    · refine .inl ⟨a, fun k hk => ?_⟩
      obtain ⟨j, _, hm⟩ := wk_min k hk
      exact b j (Nat.le_of_lt (hlt hm)) hm.1
    · exact .inr ⟨j, b, d, hlt d⟩
  · rw [if_pos (by simp only [Bool.or_eq_true, decide_eq_true_eq]; omega)]
    refine ⟨hl, fun v v0 v1 => .inl ⟨hb v v0 v1, fun k => no_wk (fun u w ha e => hs ?_) k v (fun e => hs ?_)⟩⟩
    · subst e; exact ⟨ha.2.2.1, ha.2.2.2.1⟩
    · subst e; exact ⟨v0, v1⟩
theorem rdist_use {g : List (List Int)} {s : Int} {y : List Int} (hn : g.length ≤ 1000) (h : ref06_distances g s = y) : y.length = g.length ∧ WB y 1000 := by
  subst h
  have := rdist_ds g s hn
  exact ⟨this.len, this.wb hn⟩
/-! The order -/
/-- Marked: what has been put out. -/
def Mk (n : Nat) (o : List Int) (p : List Bool) : Prop := p.length = n ∧ ∀ v : Int, 0 ≤ v → v < n → (ix p v = true ↔ v ∈ o)
theorem rt_L3 (g : List (List Int)) (o : List Int) (p : List Bool) (hp : Mk g.length o p) (w : Int) (K : Bool → List Int × Bool) : ∀ (m : Nat) (b : Bool) (i : Int), m = Int.toNat ((g.length : Int) - i) → 0 ≤ i →
    ∃ c, ref06_TopologicalOrder_L3 g p w K m b i = K c ∧ (c = true ↔ b = true ∧ ∀ v : Int, i ≤ v → Ed g v w → v ∈ o)
  | 0, b, i, hm, h0 => ⟨b, by rw [ref06_TopologicalOrder_L3], ⟨fun h => ⟨h, fun v hv he => by have := he.2.1; omega⟩, fun h => h.1⟩⟩
  | m + 1, b, i, hm, h0 => by
    rw [ref06_TopologicalOrder_L3]
    by_cases hb : b = true
    · rw [if_pos (by simp only [Bool.and_eq_true, decide_eq_true_eq]; exact ⟨by omega, hb⟩)]
      obtain ⟨c, e, h⟩ := rt_L3 g o p hp w K m ((ix p i) || (!(ref06_Edge g i w))) (i + 1) (by omega) (by omega)
      refine ⟨c, e, h.trans ⟨fun ⟨a, d⟩ => ⟨hb, fun v hv he => ?_⟩, fun ⟨_, d⟩ => ⟨?_, fun v hv he => d v (by omega) he⟩⟩⟩
      · by_cases ev : v = i
        · subst ev
          rw [Bool.or_eq_true] at a
          rcases a with a | a
          · exact (hp.2 v he.1 he.2.1).1 a
          · rw [(edge_eq g v w).2 he] at a; cases a
        · exact d v (by omega) he
      · rw [Bool.or_eq_true]
        by_cases he : Ed g i w
        · left; exact (hp.2 i he.1 he.2.1).2 (d i (Int.le_refl _) he)
        · right; rw [(edge_false g i w).2 he]; rfl
    · rw [if_neg (by simp only [Bool.and_eq_true, decide_eq_true_eq]; exact fun q => hb q.2)]
      exact ⟨b, rfl, ⟨fun h => absurd h hb, fun h => h.1⟩⟩
theorem rt_L2 (g : List (List Int)) (o : List Int) (p : List Bool) (hp : Mk g.length o p) (K : Int → List Int × Bool) : ∀ (m : Nat) (i : Int), m = Int.toNat ((g.length : Int) - i) → 0 ≤ i → i ≤ g.length →
    (∀ u : Int, 0 ≤ u → u < i → u ∉ o → ∃ v, Ed g v u ∧ v ∉ o) →
    (∃ w, IsNx g.length (Ed g) o w ∧ ref06_TopologicalOrder_L2 g p K m (-1) i = K w) ∨ ((∀ w, ¬ IsNx g.length (Ed g) o w) ∧ ref06_TopologicalOrder_L2 g p K m (-1) i = K (-1))
  | 0, i, hm, h0, h1, hu => by
    right
    refine ⟨fun w hw => ?_, by rw [ref06_TopologicalOrder_L2]⟩
    obtain ⟨v, a, b⟩ := hu w hw.h0 (by have := hw.h1; omega) hw.new
    exact b (hw.pre v a)
  | m + 1, i, hm, h0, h1, hu => by
    have hi : i < g.length := by omega
    rw [ref06_TopologicalOrder_L2, if_pos (by simp only [Bool.and_eq_true, decide_eq_true_eq]; omega)]
    obtain ⟨c, e, hc⟩ := rt_L3 g o p hp i (fun (x8_121 : Bool) =>
          if x8_121 then
            ref06_TopologicalOrder_L2 g p K m i (i + 1)
          else
          ref06_TopologicalOrder_L2 g p K m (-1) (i + 1)) (Int.toNat ((g.length : Int) - 0)) (!(ix p i)) 0 rfl (Int.le_refl _)
    rw [e]
    have hpi : (!(ix p i)) = true ↔ i ∉ o := by
      rw [← hp.2 i h0 hi]; simp
    by_cases ec : c = true
    · left
      rw [hpi] at hc
      obtain ⟨a, d⟩ := hc.1 ec
      refine ⟨i, ⟨h0, hi, a, fun v he => d v he.1 he, hu⟩, ?_⟩
      rw [if_pos ec]
      cases m with
      | zero => rw [ref06_TopologicalOrder_L2]
      | succ m => rw [ref06_TopologicalOrder_L2, if_neg (by simp only [Bool.and_eq_true, decide_eq_true_eq]; omega)]
    · rw [if_neg ec]
      refine rt_L2 g o p hp K m (i + 1) (by omega) (by omega) (by omega) fun u u0 u1 uo => ?_
      by_cases eu : u = i
      · subst eu
        rw [hc, hpi] at ec
        exact Classical.byContradiction fun q => ec ⟨uo, fun v _ he => Classical.byContradiction fun r => q ⟨v, he, r⟩⟩
      · exact hu u u0 (by omega) uo
theorem rt_L1 (g : List (List Int)) : ∀ (m : Nat) (o : List Int) (p : List Bool), (g.length : Int) - o.length ≤ m → Mk g.length o p → Gr g.length (Ed g) o →
    ∃ q, Gr g.length (Ed g) q ∧ (∀ w, ¬ IsNx g.length (Ed g) q w) ∧ ref06_TopologicalOrder_L1 g (fun o _ => (o, true)) m o p = if q.length = g.length then (q, true) else ([], false)
  | 0, o, p, hm, hp, hg => by
    have hl := hg.len
    refine ⟨o, hg, fun w hx => ?_, by rw [ref06_TopologicalOrder_L1, if_pos (by omega)]⟩
    have := nd_len g.length (w :: o) (List.nodup_cons.2 ⟨hx.new, hg.nd⟩) fun v hv => by
      rcases List.mem_cons.1 hv with rfl | hv
      · exact ⟨hx.h0, hx.h1⟩
      · exact hg.rg v hv
    simp only [List.length_cons] at this
    omega
  | m + 1, o, p, hm, hp, hg => by
    have hl := hg.len
    rw [ref06_TopologicalOrder_L1]
    by_cases hc : o.length < g.length
    · rw [if_pos (by simp only [decide_eq_true_eq]; omega)]
      rcases rt_L2 g o p hp (fun (x6_123 : Int) =>
          if (decide (x6_123 < 0)) then
            (([] : List Int), false)
          else
          ref06_TopologicalOrder_L1 g (fun o _ => (o, true)) m (o ++ ([x6_123] : List Int)) (p.set (x6_123).toNat true)) (Int.toNat ((g.length : Int) - 0)) 0 rfl (Int.le_refl _) (by omega) (fun u u0 u1 => by omega) with ⟨w, hw, e⟩ | ⟨hno, e⟩
      · have hw0 := hw.h0
        rw [e, if_neg (by simp only [decide_eq_true_eq]; omega)]
        refine rt_L1 g m (o ++ [w]) _ (by rw [List.length_append, List.length_singleton]; omega) ⟨by rw [List.length_set]; exact hp.1, fun v v0 v1 => ?_⟩ (.snoc hg hw)
        rw [ix_set v0 (by rw [hp.1]; exact v1) hw.h0, List.mem_append, List.mem_singleton]
        split
        · rename_i e; simp [e]
        · rename_i e; rw [hp.2 v v0 v1]; simp [e]
      · rw [e, if_pos (by decide)]
        exact ⟨o, hg, hno, by rw [if_neg (by omega)]⟩
    · rw [if_neg (by simp only [decide_eq_true_eq]; omega)]
      refine ⟨o, hg, fun w hx => ?_, by rw [if_pos (by omega)]⟩
      have := nd_len g.length (w :: o) (List.nodup_cons.2 ⟨hx.new, hg.nd⟩) fun v hv => by
        rcases List.mem_cons.1 hv with rfl | hv
        · exact ⟨hx.h0, hx.h1⟩
        · exact hg.rg v hv
      simp only [List.length_cons] at this
      omega
theorem rt_spec (g : List (List Int)) : ∃ q, Gr g.length (Ed g) q ∧ (∀ w, ¬ IsNx g.length (Ed g) q w) ∧ ref06_TopologicalOrder g = if q.length = g.length then (q, true) else ([], false) := by
  unfold ref06_TopologicalOrder
  exact rt_L1 g _ [] _ (by simp only [List.length_nil]; omega) ⟨by simp, fun v v0 v1 => by rw [ix_rep v0 v1]; simp⟩ .nil
theorem rt_use {g : List (List Int)} {y : List Int × Bool} (h : ref06_TopologicalOrder g = y) : y.2 = true → y.1.length = g.length ∧ ∀ k : Int, 0 ≤ k → k < y.1.length → 0 ≤ ix y.1 k ∧ ix y.1 k < g.length := fun e => by
  subst h
  obtain ⟨q, hq, _, eq⟩ := rt_spec g
  rw [eq] at e ⊢
  split
  · rename_i hl
    exact ⟨hl, fun k k0 k1 => hq.rg _ (ix_mem k0 k1)⟩
  · rename_i hl
    rw [if_neg hl] at e
    cases e
/-- Every node's number is the greatest of its predecessors' and one, or 0. -/
structure LE (n : Nat) (A : Int → Int → Prop) (d : List Int) : Prop where
  len : d.length = n
  nn : ∀ w : Int, 0 ≤ w → w < n → 0 ≤ ix d w
  ge : ∀ v w : Int, A v w → ix d v + 1 ≤ ix d w
  at_ : ∀ w : Int, 0 ≤ w → w < n → ix d w = 0 ∨ ∃ v, A v w ∧ ix d w = ix d v + 1
section
variable {n : Nat} {A : Int → Int → Prop}
theorem gr_all {o : List Int} (h : Gr n A o) (hl : o.length = n) {w : Int} (w0 : 0 ≤ w) (w1 : w < n) : w ∈ o := by
  refine Classical.byContradiction fun hw => ?_
  have := nd_len n (w :: o) (List.nodup_cons.2 ⟨hw, h.nd⟩) fun v hv => by
    rcases List.mem_cons.1 hv with rfl | hv
    · exact ⟨w0, w1⟩
    · exact h.rg v hv
  simp only [List.length_cons] at this
  omega
theorem Gr.pre {o : List Int} (h : Gr n A o) : ∀ {p t : List Int}, o = p ++ t → Gr n A p := by
  induction h with
  | nil =>
    intro p t e
    have := List.append_eq_nil_iff.1 e.symm
    rw [this.1]; exact .nil
  | @snoc o w h hw ih =>
    intro p t e
    rcases List.eq_nil_or_concat t with rfl | ⟨t', y, rfl⟩
    · rw [List.append_nil] at e
      rw [← e]; exact .snoc h hw
    · rw [List.concat_eq_append, ← List.append_assoc] at e
      exact ih (List.append_inj' e rfl).1
theorem LE.uniq (hA : ∀ v w, A v w → 0 ≤ v ∧ v < (n : Int)) {o d e : List Int} (h : Gr n A o) (hl : o.length = n) (hd : LE n A d) (he : LE n A e) : d = e := by
  have key : ∀ w ∈ o, ix d w = ix e w := by
    clear hl
    induction h with
    | nil => intro w hw; cases hw
    | @snoc o w h hw ih =>
      intro x hx
      rcases List.mem_append.1 hx with hx | hx
      · exact ih x hx
      · simp only [List.mem_singleton] at hx
        subst hx
        have h1 : ∀ {d e : List Int}, LE n A d → LE n A e → (∀ w ∈ o, ix d w = ix e w) → ix d x ≤ ix e x := by
          intro d e hd he hs
          rcases hd.at_ x hw.h0 hw.h1 with q | ⟨v, a, q⟩
          · have := he.nn x hw.h0 hw.h1; omega
          · have := he.ge v x a
            have := hs v (hw.pre v a)
            omega
        have := h1 hd he ih
        have := h1 he hd fun w hw => (ih w hw).symm
        omega
  refine ext_ix (by rw [hd.len, he.len]) fun v v0 v1 => ?_
  rw [hd.len] at v1
  exact key v (gr_all h hl v0 v1)
end
/-! Heights -/
theorem ht_fold (v : Int) (v0 : 0 ≤ v) : ∀ (l d : List Int), v ∉ l → v < d.length → (∀ w ∈ l, 0 ≤ w ∧ w < d.length) →
    (l.foldl (htOne v) d).length = d.length ∧ (∀ u : Int, 0 ≤ u → u < d.length → u ≠ v → ix (l.foldl (htOne v) d) u = ix d u) ∧ ix d v ≤ ix (l.foldl (htOne v) d) v ∧ (∀ w ∈ l, ix d w + 1 ≤ ix (l.foldl (htOne v) d) v) ∧
      (ix (l.foldl (htOne v) d) v = ix d v ∨ ∃ w ∈ l, ix (l.foldl (htOne v) d) v = ix d w + 1)
  | [], d, _, _, _ => ⟨rfl, fun u _ _ _ => rfl, Int.le_refl _, fun w hw => (by cases hw), Or.inl rfl⟩
  | w :: l, d, hv, h1, hw => by
    have hwv : w ≠ v := fun e => hv (e ▸ List.mem_cons_self)
    have hlen : (htOne v d w).length = d.length := by rw [htOne, List.length_set]
    have hat : ix (htOne v d w) v = max (ix d v) (ix d w + 1) := by rw [htOne, ix_set v0 h1 v0, if_pos rfl]
    have hne : ∀ u : Int, 0 ≤ u → u < d.length → u ≠ v → ix (htOne v d w) u = ix d u := fun u u0 u1 e => by rw [htOne, ix_set u0 u1 v0, if_neg e]
    obtain ⟨a, b, c, e, f⟩ := ht_fold v v0 l (htOne v d w) (fun q => hv (List.mem_cons_of_mem _ q)) (by rw [hlen]; exact h1) (fun u hu => by rw [hlen]; exact hw u (List.mem_cons_of_mem _ hu))
    rw [List.foldl_cons]
    have hin : ∀ u ∈ l, ix (htOne v d w) u = ix d u := fun u hu => by
      have := hw u (List.mem_cons_of_mem _ hu)
      exact hne u this.1 this.2 fun e => hv (e ▸ List.mem_cons_of_mem _ hu)
    rw [hat] at c f
    refine ⟨by rw [a, hlen], fun u u0 u1 hu => by rw [b u u0 (by rw [hlen]; exact u1) hu, hne u u0 u1 hu], by omega, fun u hu => ?_, ?_⟩
    · rcases List.mem_cons.1 hu with rfl | hu
      · omega
      · have := e u hu; rw [hin u hu] at this; exact this
    · rcases f with f | ⟨u, hu, f⟩
      · rcases Int.le_total (ix d v) (ix d w + 1) with q | q
        · right; exact ⟨w, List.mem_cons_self, by rw [f]; exact Int.max_eq_right q⟩
        · left; rw [f]; exact Int.max_eq_left q
      · right; exact ⟨u, List.mem_cons_of_mem _ hu, by rw [f, hin u hu]⟩
section
variable {n : Nat} {c : List (List Int)} {A : Int → Int → Prop}
theorem hts_suffix (h : Cl n c A) {o : List Int} (ho : Gr n A o) (hl : o.length = n) : ∀ (q p : List Int), o = p ++ q →
    (q.reverse.foldl (htStep c) (List.replicate n 0)).length = n ∧
    (∀ v ∈ q, 0 ≤ ix (q.reverse.foldl (htStep c) (List.replicate n 0)) v ∧ (∀ w, A v w → ix (q.reverse.foldl (htStep c) (List.replicate n 0)) w + 1 ≤ ix (q.reverse.foldl (htStep c) (List.replicate n 0)) v) ∧
      (ix (q.reverse.foldl (htStep c) (List.replicate n 0)) v = 0 ∨ ∃ w, A v w ∧ ix (q.reverse.foldl (htStep c) (List.replicate n 0)) v = ix (q.reverse.foldl (htStep c) (List.replicate n 0)) w + 1)) ∧
    (∀ v : Int, 0 ≤ v → v < n → v ∉ q → ix (q.reverse.foldl (htStep c) (List.replicate n 0)) v = 0)
  | [], p, e => ⟨by simp, fun v hv => (by cases hv), fun v v0 v1 _ => ix_rep v0 v1⟩
  | v :: q, p, e => by
    obtain ⟨hlen, hin, hout⟩ := hts_suffix h ho hl q (p ++ [v]) (by rw [e]; simp)
    simp only [List.reverse_cons, List.foldl_append, List.foldl_cons, List.foldl_nil]
    generalize q.reverse.foldl (htStep c) (List.replicate n 0) = d at hlen hin hout ⊢
    have hnd := ho.nd
    rw [e] at hnd
    have hvm : v ∈ o := by rw [e]; simp
    obtain ⟨v0, v1⟩ := ho.rg v hvm
    have hp : Gr n A p := ho.pre e
    have hx : IsNx n A p v := ho.at ⟨q, by rw [e]; simp⟩
    have hvq : v ∉ q := (List.nodup_cons.1 ((List.nodup_append.1 hnd).2.1)).1
    have hsucc : ∀ w, A v w → w ∈ q := fun w ha => by
      obtain ⟨_, _, w0, w1⟩ := h.rg v w ha
      have hw := gr_all ho hl w0 w1
      rw [e] at hw
      rcases List.mem_append.1 hw with hw | hw
      · exact absurd (hp.clo w hw v ha) hx.new
      · rcases List.mem_cons.1 hw with rfl | hw
        · exact absurd (hx.pre w ha) hx.new
        · exact hw
    have hrow : ∀ w, w ∈ ix c v ↔ A v w := fun w => h.mem v w v0 v1
    obtain ⟨a, b, c', e', f⟩ := ht_fold v v0 (ix c v) d (fun q' => hvq (hsucc v ((hrow v).1 q'))) (by rw [hlen]; exact v1) (fun w hw => by rw [hlen]; have := h.rg v w ((hrow w).1 hw); omega)
    have hdv := hout v v0 v1 hvq
    have hqr : ∀ w ∈ q, 0 ≤ w ∧ w < (n : Int) ∧ w ≠ v := fun w hw => by
      have := ho.rg w (by rw [e]; simp [hw])
      exact ⟨this.1, this.2, fun q' => hvq (q' ▸ hw)⟩
    have hsame : ∀ w ∈ q, ix (htStep c d v) w = ix d w := fun w hw => by
      obtain ⟨w0, w1, wv⟩ := hqr w hw
      exact b w w0 (by rw [hlen]; exact w1) wv
    unfold htStep at hsame ⊢
    refine ⟨by rw [a, hlen], fun u hu => ?_, fun u u0 u1 hu => ?_⟩
    · rcases List.mem_cons.1 hu with rfl | hu
      · refine ⟨by omega, fun w ha => ?_, ?_⟩
        · rw [hsame w (hsucc w ha)]; exact e' w ((hrow w).2 ha)
        · rcases f with f | ⟨w, hw, f⟩
          · left; rw [f, hdv]
          · right; exact ⟨w, (hrow w).1 hw, by rw [f, hsame w (hsucc w ((hrow w).1 hw))]⟩
      · obtain ⟨h1, h2, h3⟩ := hin u hu
        obtain ⟨u0, u1, uv⟩ := hqr u hu
        have huq : u ∈ q := hu
        have hsq : ∀ w, A u w → w ∈ q := fun w ha => by
          obtain ⟨_, _, w0, w1⟩ := h.rg u w ha
          have hw := gr_all ho hl w0 w1
          rw [e] at hw
          rcases List.mem_append.1 hw with hw | hw
          · have := hp.clo w hw u ha
            exact absurd rfl ((List.nodup_append.1 hnd).2.2 u this u (List.mem_cons_of_mem _ huq))
          · rcases List.mem_cons.1 hw with rfl | hw
            · exact absurd rfl ((List.nodup_append.1 hnd).2.2 u (hx.pre u ha) u (List.mem_cons_of_mem _ huq))
            · exact hw
        rw [hsame u hu]
        refine ⟨h1, fun w ha => by rw [hsame w (hsq w ha)]; exact h2 w ha, ?_⟩
        rcases h3 with h3 | ⟨w, ha, h3⟩
        · exact .inl h3
        · exact .inr ⟨w, ha, by rw [hsame w (hsq w ha)]; exact h3⟩
    · simp only [List.mem_cons, not_or] at hu
      rw [b u u0 (by rw [hlen]; exact u1) hu.1]
      exact hout u u0 u1 hu.2
theorem hts_le (h : Cl n c A) {o : List Int} (ho : Gr n A o) (hl : o.length = n) : LE n (fun w v => A v w) (htsL c o.reverse) := by
  obtain ⟨a, b, _⟩ := hts_suffix h ho hl o [] rfl
  unfold htsL
  rw [h.len]
  refine ⟨a, fun w w0 w1 => (b w (gr_all ho hl w0 w1)).1, fun v w ha => ?_, fun w w0 w1 => (b w (gr_all ho hl w0 w1)).2.2⟩
  obtain ⟨w0, w1, _, _⟩ := h.rg w v ha
  exact (b w (gr_all ho hl w0 w1)).2.1 v ha
end
/-! The reference's levels -/
theorem rl_L2 (g : List (List Int)) (y : List Int × Bool) (i : Int) (b : Int) (hb : 0 ≤ b) (hb1 : b ≤ 1000) (w0 : 0 ≤ ix y.1 i) (w1 : ix y.1 i < g.length) (hself : ¬ Ed g (ix y.1 i) (ix y.1 i)) (d : List Int) (hbd : ∀ u : Int, 0 ≤ u → u < g.length → 0 ≤ ix d u ∧ ix d u ≤ b) (K : List Int → List Int × Bool) :
    ∀ (m : Nat) (j : Int) (z : List Int), m = Int.toNat ((g.length : Int) - j) → 0 ≤ j → z.length = g.length → (∀ u : Int, 0 ≤ u → u < g.length → u ≠ ix y.1 i → ix z u = ix d u) → 0 ≤ ix z (ix y.1 i) →
      (∀ v : Int, v < j → Ed g v (ix y.1 i) → ix d v + 1 ≤ ix z (ix y.1 i)) → (ix z (ix y.1 i) = 0 ∨ ∃ v, Ed g v (ix y.1 i) ∧ ix z (ix y.1 i) = ix d v + 1) →
      ∃ z', ref06_Levels_L2 g y i K m j z = K z' ∧ z'.length = g.length ∧ (∀ u : Int, 0 ≤ u → u < g.length → u ≠ ix y.1 i → ix z' u = ix d u) ∧ 0 ≤ ix z' (ix y.1 i) ∧
        (∀ v : Int, Ed g v (ix y.1 i) → ix d v + 1 ≤ ix z' (ix y.1 i)) ∧ (ix z' (ix y.1 i) = 0 ∨ ∃ v, Ed g v (ix y.1 i) ∧ ix z' (ix y.1 i) = ix d v + 1)
  | 0, j, z, hm, j0, hz, hs, hn, hg, ha => ⟨z, by rw [ref06_Levels_L2], hz, hs, hn, fun v he => hg v (by have := he.2.1; omega) he, ha⟩
  | m + 1, j, z, hm, j0, hz, hs, hn, hg, ha => by
    rw [ref06_Levels_L2]
    simp only [LET]
    have a1 : m = Int.toNat ((g.length : Int) - (j + 1)) := by clear ha; omega
    have a2 : 0 ≤ j + 1 := by clear ha; omega
    by_cases he : Ed g j (ix y.1 i)
    · rw [if_pos ((edge_eq _ _ _).2 he)]
      have hjw : j ≠ ix y.1 i := fun e => hself (e ▸ he)
      have hzj := hs j he.1 he.2.1 hjw
      have hbj := hbd j he.1 he.2.1
      have ew : wr (ix z j + 1) = ix d j + 1 := by rw [hzj]; exact wr_of (by clear ha; omega) (by clear ha; omega)
      rw [ew]
      have hat : ix (z.set (ix y.1 i).toNat (max (ix z (ix y.1 i)) (ix d j + 1))) (ix y.1 i) = max (ix z (ix y.1 i)) (ix d j + 1) := by rw [ix_set w0 (by clear ha; omega) w0, if_pos rfl]
      refine rl_L2 g y i b hb hb1 w0 w1 hself d hbd K m (j + 1) _ a1 a2 (by rw [List.length_set]; exact hz) (fun u u0 u1 uw => by rw [ix_set u0 (by clear ha; omega) w0, if_neg uw]; exact hs u u0 u1 uw) (by rw [hat]; clear ha; omega) (fun v hv hve => ?_) ?_
      · rw [hat]
        by_cases e : v = j
        · rw [e]; clear ha; omega
        · have := hg v (by clear ha; omega) hve; clear ha; omega
      · rw [hat]
        rcases Int.le_total (ix z (ix y.1 i)) (ix d j + 1) with q | q
        · right; exact ⟨j, he, Int.max_eq_right q⟩
        · rw [Int.max_eq_left q]; exact ha
    · rw [if_neg (fun q => he ((edge_eq _ _ _).1 q))]
      refine rl_L2 g y i b hb hb1 w0 w1 hself d hbd K m (j + 1) z a1 a2 hz hs hn (fun v hv hve => ?_) ha
      by_cases e : v = j
      · rw [e] at hve; exact absurd hve he
      · exact hg v (by clear ha; omega) hve
/-- Levels of what has been put out. -/
structure LP (g : List (List Int)) (p d : List Int) (b : Int) : Prop where
  len : d.length = g.length
  bd : ∀ u : Int, 0 ≤ u → u < g.length → 0 ≤ ix d u ∧ ix d u ≤ b
  ge : ∀ w ∈ p, ∀ v, Ed g v w → ix d v + 1 ≤ ix d w
  at_ : ∀ w ∈ p, ix d w = 0 ∨ ∃ v, Ed g v w ∧ ix d w = ix d v + 1
  zr : ∀ u : Int, 0 ≤ u → u < g.length → u ∉ p → ix d u = 0
theorem rl_L1 (g : List (List Int)) (o : List Int) (ho : Gr g.length (Ed g) o) (hn : g.length ≤ 900) : ∀ (m : Nat) (i : Int) (d : List Int), m = Int.toNat ((o.length : Int) - i) → 0 ≤ i → i ≤ o.length → LP g (o.take i.toNat) d i →
    ∃ d', ref06_Levels_L1 g (o, true) (fun d => (d, true)) m i d = (d', true) ∧ LP g o d' o.length
  | 0, i, d, hm, h0, h1, hd => by
    have e : i = o.length := by omega
    subst e
    rw [List.take_of_length_le (by omega)] at hd
    exact ⟨d, by rw [ref06_Levels_L1], hd⟩
  | m + 1, i, d, hm, h0, h1, hd => by
    have hi : i < o.length := by omega
    have hol := ho.len
    have a1 : m = Int.toNat ((o.length : Int) - (i + 1)) := by omega
    have a2 : 0 ≤ i + 1 := by omega
    have a3 : i + 1 ≤ o.length := by omega
    have a4 : i ≤ 1000 := by omega
    rw [ref06_Levels_L1]
    have etk : o.take (i + 1).toNat = o.take i.toNat ++ [ix o i] := by rw [show (i + 1).toNat = i.toNat + 1 by omega, List.take_succ_eq_append_getElem (by omega), ix_lt h0 hi]
    have hx : IsNx g.length (Ed g) (o.take i.toNat) (ix o i) := ho.at ⟨o.drop (i + 1).toNat, by rw [← etk]; exact List.take_append_drop _ _⟩
    obtain ⟨z, e, hl, hs, hnn, hge, hat⟩ := rl_L2 g (o, true) i i h0 a4 hx.h0 hx.h1 (fun q => hx.new (hx.pre _ q)) d hd.bd (fun z => ref06_Levels_L1 g (o, true) (fun d => (d, true)) m (i + 1) z) (Int.toNat ((g.length : Int) - 0)) 0 d rfl (Int.le_refl _) hd.len (fun _ _ _ _ => rfl) (hd.bd _ hx.h0 hx.h1).1 (fun v hv he => absurd he.1 (by omega)) (.inl (hd.zr _ hx.h0 hx.h1 hx.new))
    rw [e]
    have hp : Gr g.length (Ed g) (o.take i.toNat) := ho.pre (t := o.drop i.toNat) (List.take_append_drop _ _).symm
    have hpw : ∀ u ∈ o.take i.toNat, u ≠ ix o i := fun u hu e => hx.new (e ▸ hu)
    have hsame : ∀ u ∈ o.take i.toNat, ix z u = ix d u := fun u hu => by
      have := hp.rg u hu
      exact hs u this.1 this.2 (hpw u hu)
    refine rl_L1 g o ho hn m (i + 1) z a1 a2 a3 ?_
    rw [etk]
    have hdb := hd.bd
    refine ⟨hl, fun u u0 u1 => ?_, fun w hw v hv => ?_, fun w hw => ?_, fun u u0 u1 hu => ?_⟩
    · by_cases eu : u = ix o i
      · subst eu
        refine ⟨hnn, ?_⟩
        rcases hat with q | ⟨v, a, q⟩
        · have q' : ix z (ix o i) = 0 := q
          clear hs hge; omega
        · have := (hdb v a.1 a.2.1).2
          have q' : ix z (ix o i) = ix d v + 1 := q
          clear hs hge; omega
      · rw [hs u u0 u1 eu]
        have := hdb u u0 u1
        clear hat hs hge; omega
    · rcases List.mem_append.1 hw with hw | hw
      · rw [hsame w hw, hsame v (hp.clo w hw v hv)]
        exact hd.ge w hw v hv
      · simp only [List.mem_singleton] at hw
        subst hw
        rw [hsame v (hx.pre v hv)]
        exact hge v hv
    · rcases List.mem_append.1 hw with hw | hw
      · rw [hsame w hw]
        rcases hd.at_ w hw with q | ⟨v, a, q⟩
        · exact .inl q
        · exact .inr ⟨v, a, by rw [hsame v (hp.clo w hw v a)]; exact q⟩
      · simp only [List.mem_singleton] at hw
        subst hw
        rcases hat with q | ⟨v, a, q⟩
        · exact .inl q
        · exact .inr ⟨v, a, by rw [hsame v (hx.pre v a)]; exact q⟩
    · simp only [List.mem_append, List.mem_singleton, not_or] at hu
      rw [hs u u0 u1 hu.2]
      exact hd.zr u u0 u1 hu.1
theorem rl_spec (g : List (List Int)) (hn : g.length ≤ 900) : ∃ q, Gr g.length (Ed g) q ∧ (∀ w, ¬ IsNx g.length (Ed g) q w) ∧
    ((q.length = g.length ∧ ∃ d, ref06_Levels g = (d, true) ∧ LE g.length (Ed g) d ∧ ∀ u : Int, 0 ≤ u → u < g.length → ix d u ≤ g.length) ∨ (q.length ≠ g.length ∧ ref06_Levels g = ([], false))) := by
  obtain ⟨q, hq, hno, e⟩ := rt_spec g
  refine ⟨q, hq, hno, ?_⟩
  unfold ref06_Levels
  rw [e]
  simp only [LET]
  by_cases hl : q.length = g.length
  · left
    refine ⟨hl, ?_⟩
    rw [if_pos hl]
    simp only [Bool.not_true, Bool.false_eq_true, if_false]
    obtain ⟨d, e2, hd⟩ := rl_L1 g q hq hn (Int.toNat ((q.length : Int) - 0)) 0 (List.replicate g.length 0) rfl (Int.le_refl _) (by omega) ⟨by simp, fun u u0 u1 => by rw [ix_rep u0 u1]; omega, fun w hw => by simp at hw, fun w hw => by simp at hw, fun u u0 u1 _ => ix_rep u0 u1⟩
    refine ⟨d, e2, ⟨hd.len, fun w w0 w1 => (hd.bd w w0 w1).1, fun v w ha => hd.ge w (gr_all hq hl ha.2.2.1 ha.2.2.2.1) v ha, fun w w0 w1 => hd.at_ w (gr_all hq hl w0 w1)⟩, fun u u0 u1 => ?_⟩
    have := (hd.bd u u0 u1).2
    omega
  · right
    refine ⟨hl, ?_⟩
    rw [if_neg hl]
    simp
theorem rl_use {g : List (List Int)} {y : List Int × Bool} (hn : g.length ≤ 900) (h : ref06_Levels g = y) : y.2 = true → y.1.length = g.length ∧ WB y.1 100000 := fun e => by
  subst h
  obtain ⟨q, _, _, h⟩ := rl_spec g hn
  rcases h with ⟨_, d, e2, hd, hb⟩ | ⟨_, e2⟩
  · rw [e2]
    refine ⟨hd.len, fun k k0 k1 => ?_⟩
    have hk : k < (g.length : Int) := by have := hd.len; simp only at k1; clear hb; omega
    have h1 := hd.nn k k0 hk
    have h2 := hb k k0 hk
    simp only
    omega
  · rw [e2] at e; cases e
theorem rdesc_L2 (g : List (List Int)) (r : List Int) (v k : Int) (K : Int → List Int) : ∀ (m : Nat) (i : Int), ∃ w, ref06_descend_L2 g r v k K m i = K w
  | 0, i => ⟨i, by rw [ref06_descend_L2]⟩
  | m + 1, i => by
    rw [ref06_descend_L2]
    split
    · exact rdesc_L2 g r v k K m (i + 1)
    · exact ⟨i, rfl⟩
theorem rdesc_L1 (g : List (List Int)) (r : List Int) : ∀ (m : Nat) (v k : Int) (z : List Int), (ref06_descend_L1 g r (fun z => z) m v k z).length ≤ z.length + m
  | 0, v, k, z => by rw [ref06_descend_L1]; simp
  | m + 1, v, k, z => by
    rw [ref06_descend_L1]
    split
    · obtain ⟨w, h⟩ := rdesc_L2 g r v k (fun w => ref06_descend_L1 g r (fun z => z) m w (wr (k - 1)) (z ++ [w])) (Int.toNat ((wr ((g.length : Int) - 1)) - 0)) 0
      rw [h]
      have := rdesc_L1 g r m w (wr (k - 1)) (z ++ [w])
      rw [List.length_append, List.length_singleton] at this
      omega
    · omega
theorem rdesc_len {g : List (List Int)} {r y : List Int} {v b : Int} (hb : WB r b) (h0 : 0 ≤ v) (h1 : v < r.length) (h2 : b ≤ 100000) (h : ref06_descend g r v = y) : y.length ≤ 100001 := by
  subst h
  have := rdesc_L1 g r (Int.toNat (ix r v)) v (ix r v) [v]
  have := hb v h0 h1
  unfold ref06_descend
  simp only [List.length_singleton] at *
  omega
theorem desc_lenA {g : List (List Int)} {r : List Int} {v b : Int} (hb : ∀ k, ix r k ≤ b) (h0 : 0 ≤ b) : ((digraph_descend g r v).length : Int) ≤ b + 1 := by
  have := desc_L1 g r (Int.toNat (ix r v)) v [v]
  have := hb v
  unfold digraph_descend
  simp only [List.length_singleton] at *
  omega
theorem sub_le {l : List Int} {a b : Int} : (sub l a b).length ≤ l.length := by
  unfold sub
  simp only [List.length_take, List.length_drop]
  omega
theorem ix_bd {r : List Int} {b : Int} (h : WB r b) (h0 : 0 ≤ b) (k : Int) : ix r k ≤ b := by
  by_cases hk : k.toNat < r.length
  · have e : ix r k = ix r (k.toNat : Int) := by unfold ix; rw [Int.toNat_natCast]
    rw [e]
    exact (h _ (by omega) (by omega)).2
  · have : ix r k = 0 := by simp only [ix, List.getD_eq_getElem?_getD]; rw [List.getElem?_eq_none (by omega)]; rfl
    rw [this]; exact h0
theorem cyc_L2 (c : List (List Int)) (v : Int) (d : List Int) (K : Int → List Int) (b : Nat) (hK : ∀ x, (K x).length ≤ b) (h1 : 1 ≤ b) : ∀ (m : Nat) (x i : Int), (digraph_ShortestCycle_L2 c v d K m x i).length ≤ b
  | 0, x, i => by rw [digraph_ShortestCycle_L2]; exact hK x
  | m + 1, x, i => by
    rw [digraph_ShortestCycle_L2]
    split
    · simpa using h1
    · split
      · exact cyc_L2 c v d K b hK h1 m _ _
      · exact cyc_L2 c v d K b hK h1 m _ _
theorem cyc_L1 (c g : List (List Int)) (hn : g.length ≤ 1000) : ∀ (m : Nat) (i : Int), (digraph_ShortestCycle_L1 c g (fun _ => []) m i).length ≤ 1002
  | 0, i => by rw [digraph_ShortestCycle_L1]; simp
  | m + 1, i => by
    rw [digraph_ShortestCycle_L1]
    simp only [LET]
    refine cyc_L2 c i _ _ 1002 (fun x => ?_) (by omega) _ _ _
    split
    · exact cyc_L1 c g hn m (i + 1)
    · refine Nat.le_trans sub_le ?_
      have hd := (dist_use (s := i) hn rfl).2
      have := desc_lenA (g := c) (v := x) (fun k => ix_bd hd (by omega) k) (by omega)
      simp only [List.length_append, List.length_singleton]
      omega
theorem cyc_len {g : List (List Int)} {y : List Int} (hs : Sm g) (h : digraph_ShortestCycle g = y) : y.length ≤ 1002 := by
  subst h
  unfold digraph_ShortestCycle
  simp only [LET]
  have := hs.n
  exact cyc_L1 _ _ (by rw [(rev_cl g).len]; omega) _ _
theorem lp_len {g : List (List Int)} {y : List Int × Bool} (hs : Sm g) (h : digraph_LongestPath g = y) : y.1.length ≤ 24001 := by
  subst h
  unfold digraph_LongestPath
  simp only [LET]
  split
  · simp
  · have hc := clean_cl g
    have hcx : Clx (digraph_clean g) := clean_clx rfl
    have hg : Gd (digraph_clean g).length (digraph_clean g) := (clean_gd hs rfl).self
    have hb : ∀ k, ix (digraph_heights (digraph_clean g)).1 k ≤ 24000 := fun k => by
      unfold digraph_heights
      split
      · simp [ix]
      · exact ((hts_eq hg (vs := (digraph_order (digraph_clean g)).reverse) (fun v hv => (ord_rg hcx (by rw [hc.len]; exact hs.n) v (List.mem_reverse.1 hv)).1) (by rw [List.length_reverse]; exact ord_len hcx (by rw [hc.len]; exact hs.n))).2 k).2
    have := desc_lenA (g := digraph_clean g) (v := slices_Index__int_int_ (digraph_heights (digraph_clean g)).1 (slices_Max__int_int_ (digraph_heights (digraph_clean g)).1)) hb (by omega)
    simp only
    omega
theorem rev_sm {g y : List (List Int)} (hs : Sm g) (h : digraph_Reverse g = y) : Sm y := (rev_gd hs h).sm hs.n
/-- A graph whose rows are in order. -/
theorem clean_id {g : List (List Int)} (h : (g.all fun r => decide (r.Pairwise fun a b => a < b) && r.all fun w => decide (0 ≤ w) && decide (w < (g.length : Int))) = true) : digraph_clean g = g := by
  simp only [List.all_eq_true, Bool.and_eq_true, decide_eq_true_eq] at h
  refine (clean_cl g).uniq (A := Ed g) (B := Ed g) ⟨rfl, fun v v0 v1 => (h _ (ix_mem v0 v1)).1, fun v w v0 v1 => ⟨fun hm => ?_, fun q => q.2.2.2.2⟩, fun v w q => ⟨q.1, q.2.1, q.2.2.1, q.2.2.2.1⟩⟩ fun _ _ => Iff.rfl
  have := (h _ (ix_mem v0 v1)).2 w hm
  exact ⟨v0, v1, this.1, this.2, hm⟩
def G1 : List (List Int) := [([1, 2] : List Int), ([3] : List Int), ([3] : List Int), ([] : List Int)]
def G2 : List (List Int) := [([1] : List Int), ([2] : List Int), ([1] : List Int)]
theorem c1 : digraph_clean G1 = G1 := clean_id (by decide)
theorem c2 : digraph_clean G2 = G2 := clean_id (by decide)
theorem r1 : digraph_Reverse G1 = [([] : List Int), ([0] : List Int), ([0] : List Int), ([1, 2] : List Int)] := by
  unfold digraph_Reverse; simp only [LET]; rw [c1]; kernel_rfl
theorem r2 : digraph_Reverse G2 = [([] : List Int), ([0, 2] : List Int), ([1] : List Int)] := by
  unfold digraph_Reverse; simp only [LET]; rw [c2]; kernel_rfl
theorem t1 : digraph_ShortestPath G1 0 3 = ([0, 1, 3], true) := by
  unfold digraph_ShortestPath; simp only [LET]; rw [r1, c1]; kernel_rfl
theorem t2 : digraph_TopologicalOrder G1 = ([0, 1, 2, 3], true) := by
  unfold digraph_TopologicalOrder; simp only [LET]; rw [c1]; kernel_rfl
theorem t3 : digraph_Levels G1 = ([0, 1, 1, 2], true) := by
  unfold digraph_Levels; simp only [LET]; rw [r1]; kernel_rfl
theorem t4 : digraph_LongestPath G1 = ([0, 1, 3], true) := by
  unfold digraph_LongestPath; simp only [LET]; rw [c1]; kernel_rfl
theorem t5 : digraph_ShortestCycle G2 = [1, 2] := by
  unfold digraph_ShortestCycle; simp only [LET]; rw [c2, r2]; kernel_rfl
theorem t6 : digraph_Reachable G1 1 = [false, true, false, true] := by kernel_rfl
theorem works_t : law06_works = true := by
  have e : law06_works = (LET (digraph_ShortestPath G1 0 3) fun y106 =>
  LET (digraph_TopologicalOrder G1) fun y108 =>
  LET (digraph_Levels G1) fun y110 =>
  LET (digraph_LongestPath G1) fun y112 =>
  LET (digraph_ShortestCycle G2) fun y118 =>
  LET (digraph_Reachable G1 1) fun y120 =>
  LET (ref06_EqualInts y106.1 ([0, 1, 3] : List Int)) fun y123 =>
  (((((((((((y123 && y106.2) && (ref06_EqualInts y108.1 ([0, 1, 2, 3] : List Int))) && y108.2) && (ref06_EqualInts y110.1 ([0, 1, 1, 2] : List Int))) && y110.2) && (ref06_EqualInts y112.1 ([0, 1, 3] : List Int))) && y112.2) && (ref06_EqualInts y118 ([1, 2] : List Int))) && (ref06_EqualBools y120 ([false, true, false, true] : List Bool))) && (ref06_EqualGraphs (digraph_Reverse G1) ([([] : List Int), ([0] : List Int), ([0] : List Int), ([1, 2] : List Int)] : List (List Int)))) && (decide ((digraph_Check ([([5] : List Int)] : List (List Int))) = 9)))) := rfl
  rw [e, t1, t2, t3, t4, t5, t6, r1]
  have h : ∀ b : Bool, b = true → b = true := fun _ h => h
  refine h _ ?_
  kernel_rfl
theorem eqI {a b : List Int} (h : a = b) : ref06_EqualInts a b = true := by
  subst h
  unfold ref06_EqualInts
  rw [if_neg (by simp)]
  have : ∀ (m : Nat) (i : Int), ref06_EqualInts_L1 a a (fun _ => true) m i = true := by
    intro m
    induction m with
    | zero => intro i; rw [ref06_EqualInts_L1]
    | succ m ih => intro i; rw [ref06_EqualInts_L1, if_neg (by simp)]; exact ih _
  exact this _ _
theorem eqB {a b : List Bool} (h : a = b) : ref06_EqualBools a b = true := by
  subst h
  unfold ref06_EqualBools
  rw [if_neg (by simp)]
  have : ∀ (m : Nat) (i : Int), ref06_EqualBools_L1 a a (fun _ => true) m i = true := by
    intro m
    induction m with
    | zero => intro i; rw [ref06_EqualBools_L1]
    | succ m ih => intro i; rw [ref06_EqualBools_L1, if_neg (by simp)]; exact ih _
  exact this _ _
theorem eqG {a b : List (List Int)} (h : a = b) : ref06_EqualGraphs a b = true := by
  subst h
  unfold ref06_EqualGraphs
  rw [if_neg (by simp)]
  have : ∀ (m : Nat) (i : Int), ref06_EqualGraphs_L1 a a (fun _ => true) m i = true := by
    intro m
    induction m with
    | zero => intro i; rw [ref06_EqualGraphs_L1]
    | succ m ih =>
      intro i
      rw [ref06_EqualGraphs_L1]
      simp only [LET, eqI rfl, Bool.not_true, Bool.false_eq_true, if_false]
      exact ih _
  exact this _ _
/-- Distances in a graph and in the one that is turned round. -/
theorem dist_rev (g : List (List Int)) (s : Int) (hn : g.length ≤ 1000) : digraph_distances (digraph_Reverse g) s = ref06_distances g s := by
  have h := rev_cl g
  have hd := dist_ds (digraph_Reverse g) s (by rw [h.len]; exact hn)
  rw [h.len] at hd
  exact hd.uniq (rdist_ds g s hn) fun u v => h.edge u v
theorem dist_rev' (g : List (List Int)) (s : Int) (hn : g.length ≤ 1000) : digraph_distances g s = ref06_distances (ref06_Reverse g) s := by
  have h := rrev_cl g
  have hd := rdist_ds (ref06_Reverse g) s (by rw [h.len]; exact hn)
  rw [h.len] at hd
  exact (dist_ds g s hn).uniq hd fun u v => (h.edge v u).symm
theorem reach_eq (g : List (List Int)) (s : Int) (hn : g.length ≤ 1000) : digraph_Reachable g s = (digraph_distances g s).map fun d => decide (0 ≤ d) := by
  have hl := (dist_ds g s hn).len
  unfold digraph_Reachable
  simp only [LET]
  generalize digraph_distances g s = d at hl
  have key : ∀ (m : Nat) (i : Int) (z : List Bool), m = Int.toNat ((d.length : Int) - i) → 0 ≤ i → z.length = d.length → (∀ k : Int, 0 ≤ k → k < i → k < d.length → ix z k = decide (0 ≤ ix d k)) → digraph_Reachable_L1 d (fun z => z) m i z = d.map fun d => decide (0 ≤ d) := by
    intro m
    induction m with
    | zero =>
      intro i z hm h0 hz hs
      rw [digraph_Reachable_L1]
      refine ext_ix (by rw [hz, List.length_map]) fun k k0 k1 => ?_
      rw [hs k k0 (by omega) (by omega), ix_lt (l := d.map _) k0 (by rw [List.length_map]; omega), List.getElem_map, ix_lt k0 (by omega)]
    | succ m ih =>
      intro i z hm h0 hz hs
      rw [digraph_Reachable_L1]
      refine ih (i + 1) _ (by omega) (by omega) (by rw [List.length_set]; exact hz) fun k k0 k1 k2 => ?_
      rw [ix_set k0 (by omega) h0]
      split
      · rename_i e; rw [e]
      · exact hs k k0 (by omega) k2
  exact key _ 0 _ rfl (Int.le_refl _) (by rw [List.length_replicate, hl]) fun k k0 k1 _ => by omega
theorem rreach_eq (g : List (List Int)) (s : Int) (hn : g.length ≤ 1000) : ref06_Reachable g s = (ref06_distances (ref06_Reverse g) s).map fun d => decide (0 ≤ d) := by
  have hr := rrev_cl g
  have hl := (rdist_ds (ref06_Reverse g) s (by rw [hr.len]; exact hn)).len
  rw [hr.len] at hl
  unfold ref06_Reachable
  simp only [LET]
  generalize ref06_distances (ref06_Reverse g) s = d at hl
  have key : ∀ (m : Nat) (i : Int) (z : List Bool), m = Int.toNat ((g.length : Int) - i) → 0 ≤ i → z.length = d.length → (∀ k : Int, 0 ≤ k → k < i → k < d.length → ix z k = decide (0 ≤ ix d k)) → ref06_Reachable_L1 d (fun z => z) m i z = d.map fun d => decide (0 ≤ d) := by
    intro m
    induction m with
    | zero =>
      intro i z hm h0 hz hs
      rw [ref06_Reachable_L1]
      refine ext_ix (by rw [hz, List.length_map]) fun k k0 k1 => ?_
      rw [hs k k0 (by omega) (by omega), ix_lt (l := d.map _) k0 (by rw [List.length_map]; omega), List.getElem_map, ix_lt k0 (by omega)]
    | succ m ih =>
      intro i z hm h0 hz hs
      rw [ref06_Reachable_L1]
      refine ih (i + 1) _ (by omega) (by omega) (by rw [List.length_set]; exact hz) fun k k0 k1 k2 => ?_
      rw [ix_set k0 (by omega) h0]
      split
      · rename_i e; rw [e]
      · exact hs k k0 (by omega) k2
  exact key _ 0 _ rfl (Int.le_refl _) (by rw [List.length_replicate, hl]) fun k k0 k1 _ => by omega
theorem DigraphReachable_law (g : List (List Int)) (s : Int) : law06_DigraphReachable g s = true := by
  unfold law06_DigraphReachable
  simp only [LET, works_t]
  by_cases hL : law06_large g = true
  · rw [if_pos hL]
  · rw [if_neg hL]
    have hn := (large_sm rfl (by simpa using hL)).n
    rw [eqB (by rw [reach_eq g s (by omega), rreach_eq g s (by omega), dist_rev' g s (by omega)])]
    rfl
/-- The smallest successor whose rank is one less. -/
structure Nx (A : Int → Int → Prop) (r : List Int) (v w : Int) : Prop where
  e : A v w
  rk : ix r w = ix r v - 1
  min : ∀ u, A v u → ix r u = ix r v - 1 → w ≤ u
/-- A path down. -/
inductive Dp (A : Int → Int → Prop) (r : List Int) : Int → List Int → Prop
  | stop {v : Int} (h : ix r v ≤ 0) : Dp A r v [v]
  | go {v w : Int} {l : List Int} (h : 0 < ix r v) (hw : Nx A r v w) (hl : Dp A r w l) : Dp A r v (v :: l)
/-- Ranks: there is always a successor whose rank is one less. -/
def Rk (n : Nat) (A : Int → Int → Prop) (r : List Int) : Prop := ∀ v : Int, 0 ≤ v → v < n → 0 < ix r v → ∃ w, A v w ∧ ix r w = ix r v - 1
section
variable {n : Nat} {A : Int → Int → Prop} {r : List Int}
theorem Nx.uniq {v w u : Int} (h : Nx A r v w) (k : Nx A r v u) : w = u := Int.le_antisymm (h.min u k.e k.rk) (k.min w h.e h.rk)
theorem Dp.uniq {v : Int} {l : List Int} (h : Dp A r v l) : ∀ {k : List Int}, Dp A r v k → l = k := by
  induction h with
  | stop h =>
    intro k hk
    cases hk with
    | stop => rfl
    | go h2 => omega
  | go h hw hl ih =>
    intro k hk
    cases hk with
    | stop h2 => omega
    | go h2 hw2 hl2 =>
      have e := hw.uniq hw2
      subst e
      rw [ih hl2]
theorem least {p : Int → Prop} : ∀ (m : Nat) (a : Int), (∃ w, a ≤ w ∧ w < a + m ∧ p w) → ∃ w, a ≤ w ∧ w < a + m ∧ p w ∧ ∀ u, a ≤ u → u < w → ¬ p u
  | 0, a, ⟨w, h0, h1, _⟩ => by omega
  | m + 1, a, ⟨w, h0, h1, hp⟩ => by
    by_cases ha : p a
    · exact ⟨a, Int.le_refl _, by omega, ha, fun u u0 u1 => by omega⟩
    · have hne : w ≠ a := fun e => ha (e ▸ hp)
      have b0 : a + 1 ≤ w := by omega
      have b1 : w < a + 1 + m := by omega
      obtain ⟨x, x0, x1, hx, hm⟩ := least m (a + 1) ⟨w, b0, b1, hp⟩
      have c0 : a ≤ x := by omega
      have c1 : x < a + (m + 1 : Nat) := by omega
      refine ⟨x, c0, c1, hx, fun u u0 u1 => ?_⟩
      by_cases e : u = a
      · rw [e]; exact ha
      · have : a + 1 ≤ u := by omega
        exact hm u this u1
theorem Rk.nx (hA : ∀ v w, A v w → 0 ≤ w ∧ w < (n : Int)) (h : Rk n A r) {v : Int} (v0 : 0 ≤ v) (v1 : v < n) (hv : 0 < ix r v) : ∃ w, Nx A r v w := by
  obtain ⟨w, a, e⟩ := h v v0 v1 hv
  obtain ⟨w0, w1⟩ := hA v w a
  have w2 : w < 0 + (n : Int) := by omega
  obtain ⟨x, x0, x1, ⟨hx, hr⟩, hm⟩ := least (p := fun w => A v w ∧ ix r w = ix r v - 1) n 0 ⟨w, w0, w2, a, e⟩
  refine ⟨x, hx, hr, fun u hu hr' => ?_⟩
  have hu0 := (hA v u hu).1
  rcases Int.lt_or_le u x with q | q
  · exact absurd ⟨hu, hr'⟩ (hm u hu0 q)
  · exact q
/-! The program's -/
theorem dd_L2 {c : List (List Int)} (h : Cl n c A) (hb : WB r 100000) (hr : r.length = n) {v w : Int} (v0 : 0 ≤ v) (v1 : v < n) (hw : Nx A r v w) (K1 : Int → List Int → List Int) (K2 : List Int → List Int) :
    ∀ (m : Nat) (i : Int) (z : List Int), m = Int.toNat (((ix c v).length : Int) - i) → 0 ≤ i → w ∈ (ix c v).drop i.toNat → digraph_descend_L2 c r v K1 K2 m v i z = K1 w (z ++ [w])
  | 0, i, z, hm, h0, hi => by rw [List.drop_eq_nil_of_le (by omega)] at hi; cases hi
  | m + 1, i, z, hm, h0, hi => by
    have hil : i < (ix c v).length := by omega
    rw [drop_ix h0 hil] at hi
    rw [digraph_descend_L2, (hb.at_dec (by omega) v0 (by omega)).1]
    by_cases hc : ix r (ix (ix c v) i) = ix r v - 1
    · rw [if_pos (by simpa using hc)]
      have ha := (h.mem v _ v0 v1).1 (ix_mem h0 hil)
      have hle := hw.min _ ha hc
      have : ix (ix c v) i = w := by
        rcases List.mem_cons.1 hi with q | q
        · exact q.symm
        · have hasc := h.asc v v0 v1
          obtain ⟨j, hj, e⟩ := List.getElem_of_mem q
          rw [List.length_drop] at hj
          rw [List.getElem_drop] at e
          have := List.pairwise_iff_getElem.1 hasc i.toNat ((i + 1).toNat + j) (by omega) (by omega) (by omega)
          rw [ix_lt h0 hil] at hle ⊢
          omega
      rw [this]
    · rw [if_neg (by simpa using hc)]
      refine dd_L2 h hb hr v0 v1 hw K1 K2 m (i + 1) z (by omega) (by omega) ?_
      rcases List.mem_cons.1 hi with q | q
      · rw [← q] at hc; exact absurd hw.rk hc
      · exact q
theorem dd_L1 {c : List (List Int)} (h : Cl n c A) (hb : WB r 100000) (hr : r.length = n) (hk : Rk n A r) : ∀ (m : Nat) (v : Int) (z : List Int), ix r v ≤ m → 0 ≤ v → v < n →
    ∃ l, digraph_descend_L1 c r (fun z => z) m v (z ++ [v]) = z ++ l ∧ Dp A r v l
  | 0, v, z, hm, v0, v1 => ⟨[v], by rw [digraph_descend_L1], .stop (by simpa using hm)⟩
  | m + 1, v, z, hm, v0, v1 => by
    rw [digraph_descend_L1]
    by_cases hc : 0 < ix r v
    · rw [if_pos (by simpa using hc)]
      obtain ⟨w, hw⟩ := hk.nx (fun v w a => (h.rg v w a).2.2) v0 v1 hc
      rw [dd_L2 h hb hr v0 v1 hw _ _ _ 0 _ rfl (Int.le_refl _) (by simpa using (h.mem v w v0 v1).2 hw.e)]
      obtain ⟨_, _, w0, w1⟩ := h.rg v w hw.e
      obtain ⟨l, e, hl⟩ := dd_L1 h hb hr hk m w (z ++ [v]) (by have := hw.rk; omega) w0 w1
      exact ⟨v :: l, by rw [e]; simp, .go hc hw hl⟩
    · rw [if_neg (by simpa using hc)]
      exact ⟨[v], rfl, .stop (by omega)⟩
theorem dd_dp {c : List (List Int)} (h : Cl n c A) (hb : WB r 100000) (hr : r.length = n) (hk : Rk n A r) {v : Int} (v0 : 0 ≤ v) (v1 : v < n) : Dp A r v (digraph_descend c r v) := by
  unfold digraph_descend
  obtain ⟨l, e, hl⟩ := dd_L1 h hb hr hk (Int.toNat (ix r v)) v [] (by omega) v0 v1
  rw [List.nil_append] at e
  rw [e]
  simpa using hl
end
/-! The reference's -/
section
variable {g : List (List Int)} {r : List Int}
theorem rdd_L2 (hn : g.length ≤ 1000) (hb : WB r 100000) (hr : r.length = g.length) {v w : Int} (v0 : 0 ≤ v) (v1 : v < g.length) (hw : Nx (Ed g) r v w) (K : Int → List Int) :
    ∀ (m : Nat) (i : Int), m = Int.toNat ((g.length : Int) - 1 - i) → 0 ≤ i → i ≤ w → ref06_descend_L2 g r v (ix r v) K m i = K w
  | 0, i, hm, h0, hi => by
    have := hw.e.2.2.2.1
    have e : i = w := by omega
    rw [ref06_descend_L2, e]
  | m + 1, i, hm, h0, hi => by
    have hwl := hw.e.2.2.2.1
    rw [ref06_descend_L2, wr_of (n := (g.length : Int) - 1) (by omega) (by omega), (hb.at_dec (by omega) v0 (by omega)).1]
    by_cases hc : ix r i = ix r v - 1 ∧ Ed g v i
    · rw [if_neg (by simp only [Bool.and_eq_true, decide_eq_true_eq, Bool.not_eq_true', Bool.and_eq_false_imp]; rintro ⟨_, q⟩; rw [(edge_eq g v i).2 hc.2] at q; exact absurd (q hc.1) (by decide))]
      have := hw.min i hc.2 hc.1
      have e : i = w := by omega
      rw [e]
    · have hne : i ≠ w := fun e => hc (by rw [e]; exact ⟨hw.rk, hw.e⟩)
      have b1 : m = Int.toNat ((g.length : Int) - 1 - (i + 1)) := by clear hc; omega
      have b2 : i + 1 ≤ w := by clear hc; omega
      have b3 : i < (g.length : Int) - 1 := by clear hc; omega
      have b4 : 0 ≤ i + 1 := by clear hc; omega
      rw [if_pos (by
        simp only [Bool.and_eq_true, decide_eq_true_eq, Bool.not_eq_true', Bool.and_eq_false_imp]
        exact ⟨b3, fun q => (edge_false g v i).2 fun s => hc ⟨q, s⟩⟩)]
      exact rdd_L2 hn hb hr v0 v1 hw K m (i + 1) b1 b4 b2
theorem rdd_L1 (hn : g.length ≤ 1000) (hb : WB r 100000) (hr : r.length = g.length) (hk : Rk g.length (Ed g) r) : ∀ (m : Nat) (v : Int) (z : List Int), ix r v ≤ m → 0 ≤ v → v < g.length →
    ∃ l, ref06_descend_L1 g r (fun z => z) m v (ix r v) (z ++ [v]) = z ++ l ∧ Dp (Ed g) r v l
  | 0, v, z, hm, v0, v1 => ⟨[v], by rw [ref06_descend_L1], .stop (by simpa using hm)⟩
  | m + 1, v, z, hm, v0, v1 => by
    rw [ref06_descend_L1]
    by_cases hc : 0 < ix r v
    · rw [if_pos (by simpa using hc)]
      obtain ⟨w, hw⟩ := hk.nx (fun v w a => ⟨a.2.2.1, a.2.2.2.1⟩) v0 v1 hc
      rw [wr_of (n := (g.length : Int) - 1) (by omega) (by omega)]
      rw [rdd_L2 hn hb hr v0 v1 hw _ _ 0 (by omega) (Int.le_refl _) hw.e.2.2.1]
      rw [(hb.at_dec (by omega) v0 (by omega)).1, ← hw.rk]
      obtain ⟨l, e, hl⟩ := rdd_L1 hn hb hr hk m w (z ++ [v]) (by have := hw.rk; omega) hw.e.2.2.1 hw.e.2.2.2.1
      exact ⟨v :: l, by rw [e]; simp, .go hc hw hl⟩
    · rw [if_neg (by simpa using hc)]
      exact ⟨[v], rfl, .stop (by omega)⟩
theorem rdd_dp (hn : g.length ≤ 1000) (hb : WB r 100000) (hr : r.length = g.length) (hk : Rk g.length (Ed g) r) {v : Int} (v0 : 0 ≤ v) (v1 : v < g.length) : Dp (Ed g) r v (ref06_descend g r v) := by
  unfold ref06_descend
  obtain ⟨l, e, hl⟩ := rdd_L1 hn hb hr hk (Int.toNat (ix r v)) v [] (by omega) v0 v1
  rw [List.nil_append] at e
  rw [e]
  simpa using hl
end
/-- Distances are ranks. -/
theorem ds_rk {n : Nat} {A : Int → Int → Prop} {s : Int} {d : List Int} (hA : ∀ u v, A u v → 0 ≤ u ∧ u < (n : Int)) (h : Ds n A s d) : Rk n (fun v u => A u v) d := fun v v0 v1 hv => by
  rcases h.at_ v v0 v1 with ⟨a, _⟩ | ⟨k, a, b, _⟩
  · omega
  · cases k with
    | zero => omega
    | succ k =>
      obtain ⟨u, hu, ha⟩ := b.pred
      refine ⟨u, ha, ?_⟩
      obtain ⟨u0, u1⟩ := hA u v ha
      rcases h.at_ u u0 u1 with ⟨_, c⟩ | ⟨j, c, d, _⟩
      · exact absurd hu.1 (c k)
      · have := d.uniq hu
        omega
theorem short_eq (g : List (List Int)) (u v : Int) (hn : g.length ≤ 24) : digraph_ShortestPath g u v = ref06_ShortestPath g u v := by
  unfold digraph_ShortestPath ref06_ShortestPath
  simp only [LET]
  rw [dist_rev g v (by omega)]
  have hd := rdist_ds g v (by omega)
  generalize ref06_distances g v = d at hd
  by_cases hu : 0 ≤ u ∧ u < g.length
  · have e1 : digraph_node g u = true := by unfold digraph_node; simp [hu.1, hu.2]
    have e2 : ((decide (u < 0)) || (decide ((g.length : Int) ≤ u))) = false := by simp; omega
    rw [e1, e2]
    simp only [Bool.not_true, Bool.false_or]
    by_cases hv : 0 ≤ v ∧ v < g.length
    · have e3 : digraph_node g v = true := by unfold digraph_node; simp [hv.1, hv.2]
      rw [e3]
      simp only [Bool.not_true, Bool.false_eq_true, if_false]
      by_cases hc : ix d u < 0
      · rw [if_pos (by simpa using hc), if_pos (by simpa using hc)]
      · rw [if_neg (by simpa using hc), if_neg (by simpa using hc)]
        have hk := ds_rk (fun u v a => ⟨a.2.2.1, a.2.2.2.1⟩) hd
        have hw := (hd.wb (by omega)).mono (c := 100000) (by omega)
        rw [(dd_dp (clean_cl g) hw hd.len hk hu.1 hu.2).uniq (rdd_dp (by omega) hw hd.len hk hu.1 hu.2)]
    · have e3 : digraph_node g v = false := by
        unfold digraph_node
        simp only [Bool.and_eq_false_imp, decide_eq_true_eq, decide_eq_false_iff_not]
        omega
      rw [e3]
      simp only [Bool.not_false, if_true]
      rw [if_pos]
      rcases hd.at_ u hu.1 hu.2 with ⟨a, _⟩ | ⟨k, _, b, _⟩
      · simp; omega
      · exfalso
        refine no_wk (A := fun u v => Ed g v u) (s := v) (fun a b q e => hv ?_) k u (fun e => hv (e ▸ hu)) b.1
        subst e; exact ⟨q.2.2.1, q.2.2.2.1⟩
  · have e1 : digraph_node g u = false := by
      unfold digraph_node
      simp only [Bool.and_eq_false_imp, decide_eq_true_eq, decide_eq_false_iff_not]
      omega
    have e2 : ((decide (u < 0)) || (decide ((g.length : Int) ≤ u))) = true := by simp; omega
    rw [e1, e2]
    simp
theorem DigraphPaths_law (g : List (List Int)) (u v : Int) : law06_DigraphPaths g u v = true := by
  unfold law06_DigraphPaths
  simp only [LET, works_t]
  by_cases hL : law06_large g = true
  · rw [if_pos hL]
  · rw [if_neg hL]
    have hn := (large_sm rfl (by simpa using hL)).n
    rw [short_eq g u v hn, eqI rfl]
    simp
section
variable {n : Nat} {A : Int → Int → Prop}
theorem Gr.congr {B : Int → Int → Prop} (h : ∀ u v, A u v ↔ B u v) {o : List Int} (hg : Gr n A o) : Gr n B o := by
  have : A = B := funext fun u => funext fun v => propext (h u v)
  rw [← this]; exact hg
/-- Some node is free: then there is a next one. -/
theorem nx_ex {o : List Int} {u : Int} (u0 : 0 ≤ u) (u1 : u < n) (uo : u ∉ o) (hp : ∀ v, A v u → v ∈ o) : ∃ w, IsNx n A o w := by
  have u2 : u < 0 + (n : Int) := by omega
  obtain ⟨w, w0, w1, ⟨wo, wp⟩, hm⟩ := least (p := fun u => u ∉ o ∧ ∀ v, A v u → v ∈ o) n 0 ⟨u, u0, u2, uo, hp⟩
  have w2 : w < (n : Int) := by omega
  refine ⟨w, w0, w2, wo, wp, fun x x0 x1 xo => ?_⟩
  exact Classical.byContradiction fun q => hm x x0 x1 ⟨xo, fun v hv => Classical.byContradiction fun s => q ⟨v, hv, s⟩⟩
/-- What stands behind in an order. -/
theorem gr_succ (hA : ∀ u v, A u v → 0 ≤ v ∧ v < (n : Int)) {o p q : List Int} {v : Int} (ho : Gr n A o) (hl : o.length = n) (e : o = p ++ v :: q) {w : Int} (ha : A v w) : w ∈ q := by
  have hp : Gr n A p := ho.pre e
  have hx : IsNx n A p v := ho.at ⟨q, by rw [e]; simp⟩
  obtain ⟨w0, w1⟩ := hA v w ha
  have hw := gr_all ho hl w0 w1
  rw [e] at hw
  rcases List.mem_append.1 hw with hw | hw
  · exact absurd (hp.clo w hw v ha) hx.new
  · rcases List.mem_cons.1 hw with rfl | hw
    · exact absurd (hx.pre w ha) hx.new
    · exact hw
theorem nd_sub : ∀ {l k : List Int}, l.Nodup → (∀ v ∈ l, v ∈ k) → l.length ≤ k.length
  | [], k, _, _ => Nat.zero_le _
  | x :: l, k, hd, hs => by
    have hx := hs x List.mem_cons_self
    have hd' := List.nodup_cons.1 hd
    have := nd_sub (l := l) (k := k.erase x) hd'.2 fun v hv => by
      have hne : v ≠ x := fun e => hd'.1 (e ▸ hv)
      exact (List.mem_erase_of_ne hne).2 (hs v (List.mem_cons_of_mem _ hv))
    rw [List.length_erase_of_mem hx] at this
    have := List.length_pos_of_mem hx
    simp only [List.length_cons]
    omega
/-- Turned round, a graph that can be put in order can still. -/
theorem gr_flip (hA : ∀ u v, A u v → (0 ≤ u ∧ u < (n : Int)) ∧ 0 ≤ v ∧ v < (n : Int)) {o q : List Int} (ho : Gr n A o) (hl : o.length = n) (hq : Gr n (fun u v => A v u) q) (hno : ∀ w, ¬ IsNx n (fun u v => A v u) q w) : q.length = n := by
  have key : ∀ (t p : List Int), o = p ++ t → ∀ v ∈ t, v ∈ q := by
    intro t
    induction t with
    | nil => intro p _ v hv; cases hv
    | cons v t ih =>
      intro p e x hx
      have ih' := ih (p ++ [v]) (by rw [e]; simp)
      rcases List.mem_cons.1 hx with rfl | hx
      · refine Classical.byContradiction fun hn => ?_
        obtain ⟨x0, x1⟩ := ho.rg x (by rw [e]; simp)
        obtain ⟨w, hw⟩ := nx_ex (A := fun u v => A v u) x0 x1 hn (fun w ha => ih' w (gr_succ (fun u v a => (hA u v a).2) ho hl e ha))
        exact hno w hw
      · exact ih' x hx
  have hle := hq.len
  have : (nds n).length ≤ q.length := by
    have hd := nds_nd n
    refine nd_sub hd fun v hv => ?_
    rw [nds_mem] at hv
    exact key o [] rfl v (gr_all ho hl hv.1 hv.2)
  have e : (nds n).length = n := by simp [nds]
  omega
end
theorem ed_rg {g : List (List Int)} {n : Nat} (h : g.length = n) : ∀ u v, Ed g u v → (0 ≤ u ∧ u < (n : Int)) ∧ 0 ≤ v ∧ v < (n : Int) := fun u v a => by
  subst h
  exact ⟨⟨a.1, a.2.1⟩, a.2.2.1, a.2.2.2.1⟩
theorem topo_eq (g : List (List Int)) (hn : g.length ≤ 24) : digraph_TopologicalOrder g = ref06_TopologicalOrder g := by
  obtain ⟨q, hq, hno, e⟩ := rt_spec g
  obtain ⟨ho, hn2⟩ := order_spec (clean_cl g) hn
  have e2 := ho.uniq hq hn2 hno
  unfold digraph_TopologicalOrder
  simp only [LET]
  rw [e2, e]
  have hl := hq.len
  by_cases hc : q.length = g.length
  · rw [if_pos hc, if_neg (by simp; omega)]
  · rw [if_neg hc, if_pos (by simp; omega)]
/-- Heights of a graph in order, all told. -/
theorem heights_spec {c : List (List Int)} {n : Nat} {A : Int → Int → Prop} (h : Cl n c A) (hn : n ≤ 24) :
    (∃ d, digraph_heights c = (d, true) ∧ LE n (fun w v => A v w) d ∧ (digraph_order c).length = n) ∨ (digraph_heights c = ([], false) ∧ (digraph_order c).length ≠ n) := by
  obtain ⟨ho, hno⟩ := order_spec h hn
  have hl := ho.len
  unfold digraph_heights
  rw [h.len]
  by_cases hc : (digraph_order c).length = n
  · left
    refine ⟨htsL c (digraph_order c).reverse, by rw [if_neg (by omega)]; simp; omega, hts_le h ho hc, hc⟩
  · right
    refine ⟨by rw [if_pos (by omega)]; simp; omega, hc⟩
theorem levels_eq (g : List (List Int)) (hn : g.length ≤ 24) : digraph_Levels g = ref06_Levels g := by
  obtain ⟨q, hq, hno, h⟩ := rl_spec g (by omega)
  unfold digraph_Levels
  simp only [LET]
  have hr := rev_cl g
  obtain ⟨ho, hno2⟩ := order_spec hr hn
  rcases heights_spec hr hn with ⟨d, e, hd, hl⟩ | ⟨e, hl⟩ <;> rcases h with ⟨ql, d2, e2, hd2, _⟩ | ⟨ql, e2⟩
  · rw [e, e2]
    congr 1
    exact hd.uniq (fun u v a => ⟨a.1, a.2.1⟩) hq ql hd2
  · exfalso
    refine ql (gr_flip (A := fun w v => Ed g v w) (fun u v a => ⟨⟨a.2.2.1, a.2.2.2.1⟩, a.1, a.2.1⟩) ho hl hq hno)
  · exfalso
    exact hl (gr_flip (A := Ed g) (ed_rg rfl) hq ql ho hno2)
  · rw [e, e2]
theorem le_rk {n : Nat} {A : Int → Int → Prop} {d : List Int} (h : LE n (fun w v => A v w) d) : Rk n A d := fun v v0 v1 hv => by
  rcases h.at_ v v0 v1 with q | ⟨w, a, q⟩
  · omega
  · exact ⟨w, a, by omega⟩
/-- The first of the greatest, by looking at one after the other. -/
theorem lp_L1 (y : List Int × Bool) (K : Int → List Int × Bool) (n : Nat) : ∀ (m : Nat) (i f : Int), m = Int.toNat ((n : Int) - i) → 0 ≤ f → f < i → i ≤ n → (∀ j : Int, 0 ≤ j → j < i → ix y.1 j ≤ ix y.1 f) → (∀ j : Int, 0 ≤ j → j < f → ix y.1 j < ix y.1 f) →
    ∃ f', ref06_LongestPath_L1 y K m f i = K f' ∧ 0 ≤ f' ∧ f' < n ∧ (∀ j : Int, 0 ≤ j → j < n → ix y.1 j ≤ ix y.1 f') ∧ (∀ j : Int, 0 ≤ j → j < f' → ix y.1 j < ix y.1 f')
  | 0, i, f, hm, f0, f1, hi, ha, hb => ⟨f, by rw [ref06_LongestPath_L1], f0, by omega, fun j j0 j1 => ha j j0 (by omega), hb⟩
  | m + 1, i, f, hm, f0, f1, hi, ha, hb => by
    rw [ref06_LongestPath_L1]
    by_cases hc : ix y.1 f < ix y.1 i
    · rw [if_pos (by simpa using hc)]
      refine lp_L1 y K n m (i + 1) i (by omega) (by omega) (by omega) (by omega) (fun j j0 j1 => ?_) (fun j j0 j1 => ?_)
      · by_cases e : j = i
        · rw [e]; exact Int.le_refl _
        · have := ha j j0 (by omega); omega
      · have := ha j j0 (by omega); omega
    · rw [if_neg (by simpa using hc)]
      refine lp_L1 y K n m (i + 1) f (by omega) f0 (by omega) (by omega) (fun j j0 j1 => ?_) hb
      by_cases e : j = i
      · rw [e]; omega
      · exact ha j j0 (by omega)
theorem long_eq (g : List (List Int)) (hn : g.length ≤ 24) : digraph_LongestPath g = ref06_LongestPath g := by
  have hc := clean_cl g
  have hr := rrev_cl g
  have hrl := hr.len
  obtain ⟨q, hq, hno, h⟩ := rl_spec (ref06_Reverse g) (by omega)
  obtain ⟨ho, hno2⟩ := order_spec hc hn
  rw [hrl] at hq hno h
  have hq' : Gr g.length (fun w v => Ed g v w) q := hq.congr fun u v => hr.edge u v
  have hno' : ∀ w, ¬ IsNx g.length (fun w v => Ed g v w) q w := fun w hw => hno w ⟨hw.h0, hw.h1, hw.new, fun v a => hw.pre v ((hr.edge v w).1 a), fun u u0 u1 uo => by
    obtain ⟨v, a, b⟩ := hw.min u u0 u1 uo
    exact ⟨v, (hr.edge v u).2 a, b⟩⟩
  unfold digraph_LongestPath ref06_LongestPath
  simp only [LET]
  rcases heights_spec hc hn with ⟨d, e, hd, hl⟩ | ⟨e, hl⟩ <;> rcases h with ⟨ql, d2, e2, hd2, hb2⟩ | ⟨ql, e2⟩
  · have hdd : d = d2 := hd.uniq (fun u v a => ⟨a.2.2.1, a.2.2.2.1⟩) hq' ql ⟨hd2.len, hd2.nn, fun v w a => hd2.ge v w ((hr.edge v w).2 a), fun w w0 w1 => by
      rcases hd2.at_ w w0 w1 with s | ⟨v, a, s⟩
      · exact .inl s
      · exact .inr ⟨v, (hr.edge v w).1 a, s⟩⟩
    subst hdd
    rw [e, e2]
    by_cases h0 : g.length = 0
    · rw [if_pos (by simp [h0]), if_pos (by simp [h0])]
    · rw [if_neg (by simp [h0]), if_neg (by simp [h0])]
      have hdl := hd.len
      have hmx := max_use (l := d) (m := slices_Max__int_int_ d) (by omega) rfl
      have hix := idx_use (y := slices_Index__int_int_ d (slices_Max__int_int_ d)) hmx.1 rfl
      obtain ⟨f, e3, f0, f1, fa, fb⟩ := lp_L1 (d, true) (fun (x6_110 : Int) => (ref06_descend g d x6_110, true)) g.length (Int.toNat ((g.length : Int) - 1)) 1 0 rfl (Int.le_refl _) (by omega) (by omega) (fun j j0 j1 => by
        have : j = 0 := by omega
        rw [this]; exact Int.le_refl _) (fun j j0 j1 => by omega)
      rw [e3]
      generalize slices_Index__int_int_ d (slices_Max__int_int_ d) = i at hix
      have hif : i = f := by
        obtain ⟨i0, i1, i2, i3⟩ := hix
        simp only at fa fb
        have a1 := fa i i0 (by omega)
        have a2 := hmx.2 (ix d f) (ix_mem f0 (by omega))
        rcases Int.lt_trichotomy i f with s | s | s
        · have := fb i i0 s; omega
        · exact s
        · exact absurd (by omega) (i3 f f0 s)
      have hw : WB d 100000 := fun k k0 k1 => by
        have h1 := hd2.nn k k0 (by omega)
        have h2 := hb2 k k0 (by omega)
        omega
      rw [hif, (dd_dp hc hw hdl (le_rk hd) f0 f1).uniq (rdd_dp (by omega) hw hdl (le_rk hd) f0 f1)]
  · exfalso
    exact ql (gr_flip (A := Ed g) (ed_rg rfl) ho hl hq' hno')
  · exfalso
    exact hl (gr_flip (A := fun w v => Ed g v w) (fun u v a => ⟨⟨a.2.2.1, a.2.2.2.1⟩, a.1, a.2.1⟩) hq' ql ho hno2)
  · rw [e, e2]
    simp
theorem DigraphOrders_law (g : List (List Int)) : law06_DigraphOrders g = true := by
  unfold law06_DigraphOrders
  simp only [LET, works_t]
  by_cases hL : law06_large g = true
  · rw [if_pos hL]
  · rw [if_neg hL]
    have hn := (large_sm rfl (by simpa using hL)).n
    rw [topo_eq g hn, levels_eq g hn, long_eq g hn]
    simp [eqI]
/-- The nearest of some nodes, or none. -/
def Bn (p : Int → Prop) (d : List Int) (x : Int) : Prop := (x = -1 ∧ ∀ w, p w → ix d w < 0) ∨ (0 ≤ x ∧ p x ∧ 0 ≤ ix d x ∧ ∀ w, p w → 0 ≤ ix d w → ix d x ≤ ix d w ∧ (w < x → ix d x < ix d w))
theorem Bn.uniq {p q : Int → Prop} {d : List Int} {x y : Int} (h : Bn p d x) (k : Bn q d y) (e : ∀ w, p w ↔ q w) : x = y := by
  rcases h with ⟨a, b⟩ | ⟨a0, a, b, c⟩ <;> rcases k with ⟨f, g⟩ | ⟨f0, f, g, i⟩
  · rw [a, f]
  · have := b y ((e y).2 f); omega
  · have := g x ((e x).1 a); omega
  · have h1 := c y ((e y).2 f) g
    have h2 := i x ((e x).1 a) b
    rcases Int.lt_trichotomy x y with s | s | s
    · have := h2.2 s; omega
    · exact s
    · have := h1.2 s; omega
theorem Bn.step {p q : Int → Prop} {d : List Int} {x w : Int} (h : Bn p d x) (hq : ∀ u, q u ↔ p u ∨ u = w) (hlt : ∀ u, p u → u < w) (w0 : 0 ≤ w) : Bn q d (if 0 ≤ ix d w ∧ (x < 0 ∨ ix d w < ix d x) then w else x) := by
  rcases h with ⟨a, b⟩ | ⟨a0, a, b, c⟩
  · by_cases hw : 0 ≤ ix d w
    · rw [if_pos ⟨hw, .inl (by omega)⟩]
      refine .inr ⟨w0, (hq w).2 (.inr rfl), hw, fun u hu u0 => ?_⟩
      rcases (hq u).1 hu with hu | rfl
      · have := b u hu; omega
      · omega
    · rw [if_neg (fun s => hw s.1)]
      refine .inl ⟨a, fun u hu => ?_⟩
      rcases (hq u).1 hu with hu | rfl
      · exact b u hu
      · omega
  · by_cases hw : 0 ≤ ix d w ∧ (x < 0 ∨ ix d w < ix d x)
    · rw [if_pos hw]
      refine .inr ⟨w0, (hq w).2 (.inr rfl), hw.1, fun u hu u0 => ?_⟩
      rcases (hq u).1 hu with hu | rfl
      · have := c u hu u0
        have := hw.2
        omega
      · omega
    · rw [if_neg hw]
      refine .inr ⟨a0, (hq x).2 (.inl a), b, fun u hu u0 => ?_⟩
      rcases (hq u).1 hu with hu | rfl
      · exact c u hu u0
      · have := hlt x a
        omega
theorem sc_L2 {n : Nat} {c : List (List Int)} {A : Int → Int → Prop} (h : Cl n c A) {v : Int} (v0 : 0 ≤ v) (v1 : v < n) (d : List Int) (K : Int → List Int) : ∀ (m : Nat) (x i : Int), m = Int.toNat (((ix c v).length : Int) - i) → 0 ≤ i → i ≤ (ix c v).length → Bn (fun w => w ∈ (ix c v).take i.toNat) d x →
    (v ∈ (ix c v).drop i.toNat → digraph_ShortestCycle_L2 c v d K m x i = [v]) ∧ (v ∉ (ix c v).drop i.toNat → ∃ y, digraph_ShortestCycle_L2 c v d K m x i = K y ∧ Bn (fun w => A v w) d y)
  | 0, x, i, hm, h0, h1, hb => by
    have e : i = (ix c v).length := by omega
    refine ⟨fun q => (by rw [List.drop_eq_nil_of_le (by omega)] at q; cases q), fun _ => ⟨x, by rw [digraph_ShortestCycle_L2], ?_⟩⟩
    rw [List.take_of_length_le (by omega)] at hb
    have : (fun w => w ∈ ix c v) = fun w => A v w := funext fun w => propext (h.mem v w v0 v1)
    rw [← this]; exact hb
  | m + 1, x, i, hm, h0, h1, hb => by
    have hi : i < (ix c v).length := by omega
    have b1 : m = Int.toNat (((ix c v).length : Int) - (i + 1)) := by omega
    have b2 : 0 ≤ i + 1 := by omega
    have b3 : i + 1 ≤ (ix c v).length := by omega
    rw [digraph_ShortestCycle_L2, drop_ix h0 hi]
    by_cases hc : ix (ix c v) i = v
    · rw [if_pos (by simpa using hc)]
      exact ⟨fun _ => rfl, fun q => absurd (by rw [hc]; exact List.mem_cons_self) q⟩
    · rw [if_neg (by simpa using hc)]
      obtain ⟨_, _, w0, w1⟩ := h.rg v _ ((h.mem v _ v0 v1).1 (ix_mem h0 hi))
      have hst := hb.step (q := fun w => w ∈ (ix c v).take (i + 1).toNat) (w := ix (ix c v) i) (fun u => mem_take_succ h0 hi u) (fun u hu => by
        obtain ⟨j, hj, e⟩ := List.getElem_of_mem hu
        rw [List.length_take] at hj
        rw [List.getElem_take] at e
        have := List.pairwise_iff_getElem.1 (h.asc v v0 v1) j i.toNat (by omega) (by omega) (by omega)
        rw [ix_lt h0 hi]
        omega) w0
      have key : (if ((decide (0 ≤ (ix d (ix (ix c v) i)))) && ((decide (x < 0)) || (decide ((ix d (ix (ix c v) i)) < (ix d x))))) = true then digraph_ShortestCycle_L2 c v d K m (ix (ix c v) i) (i + 1) else digraph_ShortestCycle_L2 c v d K m x (i + 1)) = digraph_ShortestCycle_L2 c v d K m (if 0 ≤ ix d (ix (ix c v) i) ∧ (x < 0 ∨ ix d (ix (ix c v) i) < ix d x) then ix (ix c v) i else x) (i + 1) := by
        by_cases hx : 0 ≤ ix d (ix (ix c v) i) ∧ (x < 0 ∨ ix d (ix (ix c v) i) < ix d x)
        · rw [if_pos hx, if_pos (by simpa using hx)]
        · rw [if_neg hx, if_neg (by simpa using hx)]
      rw [key]
      have ih := sc_L2 h v0 v1 d K m _ (i + 1) b1 b2 b3 hst
      refine ⟨fun q => ih.1 ?_, fun q => ih.2 ?_⟩
      · rcases List.mem_cons.1 q with q | q
        · exact absurd q.symm hc
        · exact q
      · exact fun s => q (List.mem_cons_of_mem _ s)
theorem rsc_L2 (g : List (List Int)) (v : Int) (d : List Int) (K : Int → List Int) : ∀ (m : Nat) (x i : Int), m = Int.toNat ((g.length : Int) - i) → 0 ≤ i → i ≤ g.length → Bn (fun w => w < i ∧ Ed g v w) d x →
    ∃ y, ref06_ShortestCycle_L2 g v d K m x i = K y ∧ Bn (fun w => Ed g v w) d y
  | 0, x, i, hm, h0, h1, hb => by
    refine ⟨x, by rw [ref06_ShortestCycle_L2], ?_⟩
    have e : i = g.length := by omega
    have : (fun w => w < i ∧ Ed g v w) = fun w => Ed g v w := funext fun w => propext ⟨fun q => q.2, fun q => ⟨by rw [e]; exact q.2.2.2.1, q⟩⟩
    rw [← this]; exact hb
  | m + 1, x, i, hm, h0, h1, hb => by
    have b1 : m = Int.toNat ((g.length : Int) - (i + 1)) := by omega
    have b2 : 0 ≤ i + 1 := by omega
    have b3 : i + 1 ≤ g.length := by omega
    rw [ref06_ShortestCycle_L2]
    simp only [LET]
    by_cases he : Ed g v i
    · rw [(edge_eq g v i).2 he]
      have hst := hb.step (q := fun w => w < i + 1 ∧ Ed g v w) (w := i) (fun u => ⟨fun ⟨q, s⟩ => by
        by_cases e : u = i
        · exact .inr e
        · exact .inl ⟨by omega, s⟩, fun q => by
        rcases q with ⟨q, s⟩ | rfl
        · exact ⟨by omega, s⟩
        · exact ⟨by omega, he⟩⟩) (fun u hu => hu.1) h0
      have key : (if (((true && decide (0 ≤ (ix d i))) && ((decide (x < 0)) || (decide ((ix d i) < (ix d x)))))) = true then ref06_ShortestCycle_L2 g v d K m i (i + 1) else ref06_ShortestCycle_L2 g v d K m x (i + 1)) = ref06_ShortestCycle_L2 g v d K m (if 0 ≤ ix d i ∧ (x < 0 ∨ ix d i < ix d x) then i else x) (i + 1) := by
        by_cases hx : 0 ≤ ix d i ∧ (x < 0 ∨ ix d i < ix d x)
        · rw [if_pos hx, if_pos (by simpa using hx)]
        · rw [if_neg hx, if_neg (by simpa using hx)]
      rw [key]
      exact rsc_L2 g v d K m _ (i + 1) b1 b2 b3 hst
    · rw [(edge_false g v i).2 he]
      simp only [Bool.false_and, Bool.false_eq_true, if_false]
      refine rsc_L2 g v d K m x (i + 1) b1 b2 b3 ?_
      have : (fun w => w < i + 1 ∧ Ed g v w) = fun w => w < i ∧ Ed g v w := funext fun w => propext ⟨fun ⟨q, s⟩ => ⟨by
        have : w ≠ i := fun e => he (e ▸ s)
        omega, s⟩, fun ⟨q, s⟩ => ⟨by omega, s⟩⟩
      rw [this]; exact hb
/-- What is found at a node: nothing, or the node and the way back. -/
def cyc (g : List (List Int)) (v : Int) (d : List Int) (x : Int) : List Int := sub (([v] : List Int) ++ ref06_descend g d x) 0 (wr (((([v] : List Int) ++ ref06_descend g d x).length : Int) - 1))
theorem sc_L1 (g : List (List Int)) (hn : g.length ≤ 24) : ∀ (m : Nat) (i : Int), m = Int.toNat ((g.length : Int) - i) → 0 ≤ i → digraph_ShortestCycle_L1 (digraph_clean g) (digraph_Reverse g) (fun _ => []) m i = ref06_ShortestCycle_L1 g (fun _ => []) m i
  | 0, i, hm, h0 => by rw [digraph_ShortestCycle_L1, ref06_ShortestCycle_L1]
  | m + 1, i, hm, h0 => by
    have hi : i < g.length := by omega
    have ih := sc_L1 g hn m (i + 1) (by omega) (by omega)
    rw [digraph_ShortestCycle_L1, ref06_ShortestCycle_L1]
    simp only [LET]
    rw [dist_rev g i (by omega), ih]
    have hd := rdist_ds g i (by omega)
    generalize ref06_distances g i = d at hd
    have hk := ds_rk (fun u v a => ⟨a.2.2.1, a.2.2.2.1⟩) hd
    have hw := (hd.wb (by omega)).mono (c := 100000) (by omega)
    have hc := clean_cl g
    obtain ⟨y, e, hy⟩ := rsc_L2 g i d (fun (x5_112 : Int) =>
        if (decide (0 ≤ x5_112)) then
          (sub (([i] : List Int) ++ (ref06_descend g d x5_112)) 0 (wr (((([i] : List Int) ++ (ref06_descend g d x5_112)).length : Int) - 1)))
        else
        ref06_ShortestCycle_L1 g (fun _ => []) m (i + 1)) (Int.toNat ((g.length : Int) - 0)) (-1) 0 rfl (Int.le_refl _) (by omega) (.inl ⟨rfl, fun w q => absurd q.2.2.2.1 (by omega)⟩)
    rw [e]
    have hself : ∀ w : Int, 0 ≤ w → w < g.length → (ix d w = 0 ↔ w = i) := fun w w0 w1 => by
      rcases hd.at_ w w0 w1 with ⟨a, b⟩ | ⟨k, a, b, _⟩
      · constructor
        · intro q; omega
        · intro q; exact absurd (show Wk _ i 0 w from q) (b 0)
      · constructor
        · intro q
          obtain rfl : k = 0 := by omega
          exact b.1
        · intro q
          have := b.2 0 q
          omega
    have hL := sc_L2 hc h0 hi d (fun (x7_117 : Int) =>
        if (decide (x7_117 < 0)) then
          ref06_ShortestCycle_L1 g (fun _ => []) m (i + 1)
        else
        (sub (([i] : List Int) ++ (digraph_descend (digraph_clean g) d x7_117)) 0 (wr (((([i] : List Int) ++ (digraph_descend (digraph_clean g) d x7_117)).length : Int) - 1)))) (Int.toNat (((ix (digraph_clean g) i).length : Int) - 0)) (-1) 0 rfl (Int.le_refl _) (by omega) (.inl ⟨rfl, fun w q => by simp at q⟩)
    simp only [Int.toNat_zero, List.drop_zero] at hL
    by_cases hv : i ∈ ix (digraph_clean g) i
    · have h1 := hL.1 hv
      rw [h1]
      have he : Ed g i i := (hc.mem i i h0 hi).1 hv
      have hi0 := (hself i h0 hi).2 rfl
      have hyi : y = i := by
        rcases hy with ⟨a, b⟩ | ⟨y0, a, b, c⟩
        · have := b i he; omega
        · have := c i he (by omega)
          exact (hself y a.2.2.1 a.2.2.2.1).1 (by omega)
      subst hyi
      rw [if_pos (by simpa using h0)]
      rw [(rdd_dp (by omega) hw hd.len hk h0 hi).uniq (.stop (by omega))]
      have : wr (((([y] : List Int) ++ [y]).length : Int) - 1) = 1 := by
        rw [wr_of] <;> simp
      rw [this]
      rfl
    · obtain ⟨x, e2, hx⟩ := hL.2 hv
      rw [e2]
      have hxy : x = y := hx.uniq hy fun _ => Iff.rfl
      subst hxy
      by_cases hx0 : x < 0
      · rw [if_pos (by simpa using hx0), if_neg (by simp; omega)]
      · rw [if_neg (by simpa using hx0), if_pos (by simp; omega)]
        rcases hx with ⟨a, _⟩ | ⟨_, a, _, _⟩
        · omega
        · rw [(dd_dp hc hw hd.len hk a.2.2.1 a.2.2.2.1).uniq (rdd_dp (by omega) hw hd.len hk a.2.2.1 a.2.2.2.1)]
theorem cycle_eq (g : List (List Int)) (hn : g.length ≤ 24) : digraph_ShortestCycle g = ref06_ShortestCycle g := by
  unfold digraph_ShortestCycle ref06_ShortestCycle
  simp only [LET]
  rw [(clean_cl g).len]
  exact sc_L1 g hn _ 0 rfl (Int.le_refl _)
theorem DigraphCycles_law (g : List (List Int)) : law06_DigraphCycles g = true := by
  unfold law06_DigraphCycles
  simp only [LET, works_t]
  by_cases hL : law06_large g = true
  · rw [if_pos hL]
  · rw [if_neg hL]
    have hn := (large_sm rfl (by simpa using hL)).n
    rw [cycle_eq g hn, rev_eq g, eqI rfl, eqG rfl]
    rfl
theorem wk_cons {A : Int → Int → Prop} {v u : Int} (h : A v u) : ∀ (k : Nat) (s : Int), Wk A u k s → Wk A v (k + 1) s
  | 0, s, hw => ⟨v, rfl, by rw [show s = u from hw]; exact h⟩
  | k + 1, s, ⟨x, hx, ha⟩ => ⟨x, wk_cons h k x hx, ha⟩
theorem wk_rev {A : Int → Int → Prop} {s : Int} : ∀ (k : Nat) (v : Int), Wk A s k v → Wk (fun u w => A w u) v k s
  | 0, v, h => (show v = s from h).symm
  | k + 1, v, ⟨u, hu, ha⟩ => wk_cons (A := fun u w => A w u) ha k s (wk_rev k u hu)
theorem ds_pos {n : Nat} {A : Int → Int → Prop} {s v : Int} {d : List Int} (h : Ds n A s d) (v0 : 0 ≤ v) (v1 : v < n) : 0 ≤ ix d v ↔ ∃ k, Wk A s k v := by
  rcases h.at_ v v0 v1 with ⟨a, b⟩ | ⟨k, a, b, _⟩
  · exact ⟨fun q => by omega, fun ⟨k, hk⟩ => absurd hk (b k)⟩
  · exact ⟨fun _ => ⟨k, b.1⟩, fun _ => by omega⟩
theorem ix_map {f : Int → Bool} {d : List Int} {k : Int} (k0 : 0 ≤ k) (k1 : k < d.length) : ix (d.map f) k = f (ix d k) := by
  rw [ix_lt (l := d.map f) k0 (by rw [List.length_map]; exact k1), List.getElem_map, ix_lt k0 k1]
theorem rv_L2 (g t : List (List Int)) (h : ∀ v w, ref06_Edge g v w = ref06_Edge t v w) (v : Int) (K : Unit → Bool) : ∀ (m : Nat) (i : Int), law06_DigraphReverses_L2 g t v K m i = K ()
  | 0, i => by rw [law06_DigraphReverses_L2]
  | m + 1, i => by
    rw [law06_DigraphReverses_L2]
    simp only [LET, h, decide_true, Bool.not_true, Bool.false_eq_true, if_false]
    exact rv_L2 g t h v K m (i + 1)
theorem rv_L1 (g t : List (List Int)) (h : ∀ v w, ref06_Edge g v w = ref06_Edge t v w) (K : Unit → Bool) : ∀ (m : Nat) (i : Int), law06_DigraphReverses_L1 g t K m i = K ()
  | 0, i => by rw [law06_DigraphReverses_L1]
  | m + 1, i => by
    rw [law06_DigraphReverses_L1, rv_L2 g t h]
    exact rv_L1 g t h K m (i + 1)
theorem DigraphReverses_law (g : List (List Int)) (u v : Int) : law06_DigraphReverses g u v = true := by
  unfold law06_DigraphReverses
  simp only [LET, works_t]
  by_cases hL : law06_large g = true
  · rw [if_pos hL]
  · rw [if_neg hL]
    have hn := (large_sm rfl (by simpa using hL)).n
    have hr := rev_cl g
    have hrl := hr.len
    have hr2 := rev_cl (digraph_Reverse g)
    have hr2l := hr2.len
    have hd := dist_ds g u (by omega)
    have hd2 := rdist_ds g v (by omega)
    rw [reach_eq g u (by omega), reach_eq (digraph_Reverse g) v (by omega), dist_rev g v (by omega)]
    have hedge : ∀ a b, ref06_Edge g a b = ref06_Edge (digraph_Reverse (digraph_Reverse g)) a b := fun a b => by
      rw [Bool.eq_iff_iff, edge_eq, edge_eq]
      rw [hr2.edge a b, hr.edge b a]
    rw [if_neg (by simp only [List.length_map, hd.len, hd2.len, hr2l, hrl]; simp)]
    rw [rv_L1 g _ hedge]
    by_cases hin : (0 ≤ u ∧ u < g.length) ∧ 0 ≤ v ∧ v < g.length
    · have hiff : 0 ≤ ix (digraph_distances g u) v ↔ 0 ≤ ix (ref06_distances g v) u := by
        rw [ds_pos hd hin.2.1 hin.2.2, ds_pos hd2 hin.1.1 hin.1.2]
        exact ⟨fun ⟨k, hk⟩ => ⟨k, wk_rev k v hk⟩, fun ⟨k, hk⟩ => ⟨k, wk_rev (A := fun u v => Ed g v u) k u hk⟩⟩
      have hok : (digraph_ShortestPath g u v).2 = decide (0 ≤ ix (ref06_distances g v) u) := by
        rw [short_eq g u v hn]
        unfold ref06_ShortestPath
        simp only [LET]
        by_cases hc : ix (ref06_distances g v) u < 0
        · rw [if_pos (by simp [hc])]
          simp; omega
        · rw [if_neg (by simp; omega)]
          simp; omega
      rw [hok, ix_map hin.2.1 (by rw [hd.len]; exact hin.2.2), ix_map hin.1.1 (by rw [hd2.len]; exact hin.1.2)]
      rw [if_neg]
      simp [hiff]
    · rw [if_neg]
      simp only [Bool.and_eq_true, decide_eq_true_eq]
      rintro ⟨⟨⟨⟨a, b⟩, c⟩, d⟩, _⟩
      exact hin ⟨⟨a, b⟩, c, d⟩
/-- Nodes, each with an edge to the next. -/
inductive Ch (g : List (List Int)) : List Int → Prop
  | nil : Ch g []
  | one {v : Int} (h0 : 0 ≤ v) (h1 : v < g.length) : Ch g [v]
  | cons {v w : Int} {l : List Int} (e : Ed g v w) (h : Ch g (w :: l)) : Ch g (v :: w :: l)
theorem Ch.at {g : List (List Int)} {l : List Int} (h : Ch g l) : ∀ i : Nat, i < l.length → (0 ≤ ix l i ∧ ix l i < g.length) ∧ (0 < i → Ed g (ix l ((i : Int) - 1)) (ix l i)) := by
  induction h with
  | nil => intro i hi; simp at hi
  | @one v h0 h1 =>
    intro i hi
    have e : i = 0 := by simp at hi; omega
    subst e
    exact ⟨⟨h0, h1⟩, fun q => by omega⟩
  | @cons v w l e h ih =>
    intro i hi
    cases i with
    | zero => exact ⟨⟨e.1, e.2.1⟩, fun q => by omega⟩
    | succ i =>
      have hi' : i < (w :: l).length := by simpa using hi
      obtain ⟨a, b⟩ := ih i hi'
      have e1 : ix (v :: w :: l) ((i + 1 : Nat) : Int) = ix (w :: l) (i : Int) := by simp [ix]
      rw [e1]
      refine ⟨a, fun _ => ?_⟩
      cases i with
      | zero => exact e
      | succ i =>
        have e2 : ix (v :: w :: l) (((i + 1 + 1 : Nat) : Int) - 1) = ix (w :: l) (((i + 1 : Nat) : Int) - 1) := by
          rw [show ((i + 1 + 1 : Nat) : Int) - 1 = ((i + 1 : Nat) : Int) by omega, show ((i + 1 : Nat) : Int) - 1 = (i : Int) by omega]
          simp [ix]
        rw [e2]
        exact b (by omega)
theorem path_L1 (g : List (List Int)) (l : List Int) (hl : l.length ≤ 1000000) (h : ∀ i : Nat, i < l.length → (0 ≤ ix l i ∧ ix l i < g.length) ∧ (0 < i → Ed g (ix l ((i : Int) - 1)) (ix l i))) : ∀ (m : Nat) (i : Int), m = Int.toNat ((l.length : Int) - i) → 0 ≤ i → law06_path_L1 g l (fun _ => true) m i = true
  | 0, i, hm, h0 => by rw [law06_path_L1]
  | m + 1, i, hm, h0 => by
    rw [law06_path_L1]
    obtain ⟨k, rfl⟩ : ∃ k : Nat, i = k := ⟨i.toNat, by omega⟩
    obtain ⟨⟨a, b⟩, c⟩ := h k (by omega)
    rw [if_neg]
    · exact path_L1 g l hl h m _ (by omega) (by omega)
    · simp only [Bool.or_eq_true, Bool.and_eq_true, decide_eq_true_eq, Bool.not_eq_true']
      rintro ((q | q) | ⟨q, s⟩)
      · omega
      · omega
      · rw [wr_of (by omega) (by omega)] at s
        rw [(edge_eq g _ _).2 (c (by omega))] at s
        cases s
theorem path_t {g : List (List Int)} {l : List Int} (hl : l.length ≤ 1000000) (h : Ch g l) : law06_path g l = true := path_L1 g l hl h.at _ 0 rfl (Int.le_refl _)
theorem Dp.ch {g : List (List Int)} {r : List Int} {v : Int} {l : List Int} (h : Dp (Ed g) r v l) (v0 : 0 ≤ v) (v1 : v < g.length) : Ch g l ∧ ∃ t, l = v :: t := by
  induction h with
  | stop h => exact ⟨.one v0 v1, [], rfl⟩
  | go h hw hl ih =>
    obtain ⟨a, t, e⟩ := ih hw.e.2.2.1 hw.e.2.2.2.1
    subst e
    exact ⟨.cons hw.e a, _, rfl⟩
theorem Dp.len {A : Int → Int → Prop} {r : List Int} {v : Int} {l : List Int} (h : Dp A r v l) : 0 ≤ ix r v → (l.length : Int) = ix r v + 1 := by
  induction h with
  | stop h => intro h0; simp; omega
  | go h hw hl ih =>
    intro h0
    have hk := hw.rk
    have := ih (by omega)
    simp only [List.length_cons]
    omega
/-- What the search for a cycle gives. -/
theorem rsc_spec (g : List (List Int)) (hn : g.length ≤ 24) : ∀ (m : Nat) (i : Int), m = Int.toNat ((g.length : Int) - i) → 0 ≤ i →
    (ref06_ShortestCycle_L1 g (fun _ => []) m i = [] ∧ ∀ v : Int, i ≤ v → v < g.length → ∀ w, Ed g v w → ix (ref06_distances g v) w < 0) ∨
    (∃ v l, ref06_ShortestCycle_L1 g (fun _ => []) m i = v :: l ∧ Ch g ((v :: l) ++ [v]))
  | 0, i, hm, h0 => .inl ⟨by rw [ref06_ShortestCycle_L1], fun v a b => by omega⟩
  | m + 1, i, hm, h0 => by
    have hi : i < g.length := by omega
    have a1 : m = Int.toNat ((g.length : Int) - (i + 1)) := by omega
    have ih := rsc_spec g hn m (i + 1) a1 (by omega)
    rw [ref06_ShortestCycle_L1]
    simp only [LET]
    have hd := rdist_ds g i (by omega)
    obtain ⟨y, e, hy⟩ := rsc_L2 g i (ref06_distances g i) (fun (x5_112 : Int) =>
        if (decide (0 ≤ x5_112)) then
          (sub (([i] : List Int) ++ (ref06_descend g (ref06_distances g i) x5_112)) 0 (wr (((([i] : List Int) ++ (ref06_descend g (ref06_distances g i) x5_112)).length : Int) - 1)))
        else
        ref06_ShortestCycle_L1 g (fun _ => []) m (i + 1)) (Int.toNat ((g.length : Int) - 0)) (-1) 0 rfl (Int.le_refl _) (by omega) (.inl ⟨rfl, fun w q => absurd q.2.2.2.1 (by omega)⟩)
    rw [e]
    clear e
    rcases hy with ⟨rfl, b⟩ | ⟨y0, a, b, c⟩
    · rw [if_neg (by decide)]
      rcases ih with ⟨e2, h2⟩ | h2
      · refine .inl ⟨e2, fun v v0 v1 => ?_⟩
        by_cases ev : v = i
        · rw [ev]; exact b
        · exact h2 v (by omega) v1
      · exact .inr h2
    · right
      rw [if_pos (by simpa using y0)]
      have hk := ds_rk (fun u v a => ⟨a.2.2.1, a.2.2.2.1⟩) hd
      have hw := (hd.wb (by omega)).mono (c := 100000) (by omega)
      have hdp := rdd_dp (by omega) hw hd.len hk a.2.2.1 a.2.2.2.1
      have hzero : ∀ w : Int, 0 ≤ w → w < g.length → 0 ≤ ix (ref06_distances g i) w → ix (ref06_distances g i) w ≤ 0 → w = i := fun w w0 w1 d0 d1 => by
        rcases hd.at_ w w0 w1 with ⟨q, _⟩ | ⟨k, q, s, _⟩
        · omega
        · obtain rfl : k = 0 := by omega
          exact s.1
      have hpos : ∀ v w, Nx (Ed g) (ref06_distances g i) v w → 0 < ix (ref06_distances g i) v → 0 ≤ ix (ref06_distances g i) w := fun v w hx h => by have := hx.rk; omega
      obtain ⟨t, et⟩ : ∃ t, ref06_descend g (ref06_distances g i) y = t ++ [i] := by
        have key : ∀ {x : Int} {l : List Int}, Dp (Ed g) (ref06_distances g i) x l → 0 ≤ x → x < g.length → 0 ≤ ix (ref06_distances g i) x → ∃ t, l = t ++ [i] := by
          intro x l h
          induction h with
          | stop h => intro x0 x1 d0; exact ⟨[], by rw [hzero _ x0 x1 d0 h]; rfl⟩
          | @go v w l h hx hl ih =>
            intro x0 x1 d0
            obtain ⟨t, e⟩ := ih hx.e.2.2.1 hx.e.2.2.2.1 (hpos _ _ hx h)
            exact ⟨v :: t, by rw [e]; rfl⟩
        exact key hdp a.2.2.1 a.2.2.2.1 b
      obtain ⟨hch, t2, et2⟩ := hdp.ch a.2.2.1 a.2.2.2.1
      have hfull : Ch g (i :: ref06_descend g (ref06_distances g i) y) := by rw [et2]; rw [et2] at hch; exact .cons a hch
      rw [et] at hfull ⊢
      refine ⟨i, t, ?_, by simpa using hfull⟩
      have hlen := hdp.len b
      rw [et] at hlen
      have hyb := (hw y a.2.2.1 (by rw [hd.len]; exact a.2.2.2.1)).2
      simp only [List.length_append, List.length_singleton] at hlen
      have e3 : wr (((([i] : List Int) ++ (t ++ [i])).length : Int) - 1) = t.length + 1 := by
        rw [wr_of] <;> simp only [List.length_append, List.length_singleton] <;> omega
      rw [e3]
      unfold sub
      simp only [Int.toNat_zero, List.drop_zero, Nat.sub_zero]
      rw [show ((t.length : Int) + 1).toNat = t.length + 1 by omega]
      simp
/-- Along a walk the levels go down. -/
theorem le_walk {n : Nat} {A : Int → Int → Prop} {d : List Int} (h : LE n A d) {s : Int} : ∀ (k : Nat) (x : Int), Wk (fun u v => A v u) s k x → ix d x + k ≤ ix d s
  | 0, x, hx => by have e : x = s := hx
                   rw [e]; simp
  | k + 1, x, ⟨u, hu, ha⟩ => by
    have := le_walk h k u hu
    have := h.ge x u ha
    omega
/-- A graph that cannot be put in order has a node that comes back to itself. -/
theorem back_ex {n : Nat} {A : Int → Int → Prop} (hA : ∀ u v, A u v → 0 ≤ u ∧ u < (n : Int)) {q : List Int} (hno : ∀ w, ¬ IsNx n A q w) {u : Int} (u0 : 0 ≤ u) (u1 : u < n) (uq : u ∉ q) : ∃ v k, Wk A v (k + 1) v := by
  refine Classical.byContradiction fun hac => ?_
  have hirr : ∀ v k, ¬ Wk A v (k + 1) v := fun v k h => hac ⟨v, k, h⟩
  have hpred : ∀ u : Int, 0 ≤ u → u < n → u ∉ q → ∃ v, A v u ∧ v ∉ q := fun u u0 u1 uq => Classical.byContradiction fun h => by
    obtain ⟨w, hw⟩ := nx_ex (A := A) u0 u1 uq fun v hv => Classical.byContradiction fun s => h ⟨v, hv, s⟩
    exact hno w hw
  classical
  have key : ∀ (m : Nat) (u : Int), 0 ≤ u → u < n → u ∉ q → ((List.range n).filter fun x : Nat => decide (∃ k, Wk A (x : Int) (k + 1) u)).length ≤ m → False := by
    intro m
    induction m with
    | zero =>
      intro u u0 u1 uq hm
      obtain ⟨v, ha, vq⟩ := hpred u u0 u1 uq
      obtain ⟨v0, v1⟩ := hA v u ha
      have : v.toNat ∈ (List.range n).filter fun x : Nat => decide (∃ k, Wk A (x : Int) (k + 1) u) := by
        rw [List.mem_filter, List.mem_range, decide_eq_true_eq]
        exact ⟨by omega, 0, v, by rw [show ((v.toNat : Nat) : Int) = v by omega]; exact rfl, ha⟩
      have := List.length_pos_of_mem this
      omega
    | succ m ih =>
      intro u u0 u1 uq hm
      obtain ⟨v, ha, vq⟩ := hpred u u0 u1 uq
      obtain ⟨v0, v1⟩ := hA v u ha
      refine ih v v0 v1 vq ?_
      have := Go.Pb.filter_lt (p := fun x : Nat => decide (∃ k, Wk A (x : Int) (k + 1) u)) (q := fun x : Nat => decide (∃ k, Wk A (x : Int) (k + 1) v)) (i := v.toNat) (List.range n) (fun j _ hj => by
        rw [decide_eq_true_eq] at hj ⊢
        obtain ⟨k, hk⟩ := hj
        exact ⟨k + 1, v, hk, ha⟩) (by rw [List.mem_range]; omega) (by
        rw [decide_eq_true_eq]
        exact ⟨0, v, by rw [show ((v.toNat : Nat) : Int) = v by omega]; exact rfl, ha⟩) (by
        rw [decide_eq_false_iff_not]
        rintro ⟨k, hk⟩
        rw [show ((v.toNat : Nat) : Int) = v by omega] at hk
        exact hirr v k hk)
      omega
  exact key _ u u0 u1 uq (Nat.le_refl _)
/-- The greatest level is the greatest height. -/
theorem lev_hgt {n : Nat} {A : Int → Int → Prop} {d e : List Int} (hA : ∀ u v, A u v → 0 ≤ u ∧ u < (n : Int)) (h : LE n A d) (k : LE n (fun w v => A v w) e) {H : Int} (hH : ∀ w : Int, 0 ≤ w → w < n → ix e w ≤ H) : ∀ (m : Nat) (w : Int), 0 ≤ w → w < n → ix d w = m → ix d w + ix e w ≤ H
  | 0, w, w0, w1, hw => by have := hH w w0 w1; omega
  | m + 1, w, w0, w1, hw => by
    rcases h.at_ w w0 w1 with q | ⟨v, a, q⟩
    · omega
    · obtain ⟨v0, v1⟩ := hA v w a
      have h1 := lev_hgt hA h k hH m v v0 v1 (by omega)
      have h2 := k.ge w v a
      omega
theorem lev_le {n : Nat} {A : Int → Int → Prop} {d e : List Int} (hA : ∀ u v, A u v → 0 ≤ u ∧ u < (n : Int)) (h : LE n A d) (k : LE n (fun w v => A v w) e) {H : Int} (hH : ∀ w : Int, 0 ≤ w → w < n → ix e w ≤ H) {w : Int} (w0 : 0 ≤ w) (w1 : w < n) : ix d w ≤ H := by
  have h0 := h.nn w w0 w1
  have := lev_hgt hA h k hH (ix d w).toNat w w0 w1 (by omega)
  have := k.nn w w0 w1
  omega
theorem top_L1 (y : List Int × Bool) (K : Int → Bool) (hl : y.1.length ≤ 1000) : ∀ (m : Nat) (t i : Int), m = Int.toNat ((y.1.length : Int) - i) → 0 ≤ i → i ≤ y.1.length → (∀ j : Int, 0 ≤ j → j < i → ix y.1 j ≤ t) → (t = -1 ∨ ∃ j : Int, 0 ≤ j ∧ j < i ∧ t = ix y.1 j) →
    ∃ t', law06_DigraphAcyclic_L1 y K m t i = K t' ∧ (∀ j : Int, 0 ≤ j → j < y.1.length → ix y.1 j ≤ t') ∧ (t' = -1 ∨ ∃ j : Int, 0 ≤ j ∧ j < y.1.length ∧ t' = ix y.1 j)
  | 0, t, i, hm, h0, h1, ha, hb => by
    have e : i = y.1.length := by clear hb; omega
    rw [← e]
    exact ⟨t, by rw [law06_DigraphAcyclic_L1], ha, hb⟩
  | m + 1, t, i, hm, h0, h1, ha, hb => by
    have a1 : m = Int.toNat ((y.1.length : Int) - (i + 1)) := by clear hb; omega
    have a2 : i + 1 ≤ y.1.length := by clear hb; omega
    have a3 : 0 ≤ i + 1 := by clear hb; omega
    rw [law06_DigraphAcyclic_L1]
    refine top_L1 y K hl m _ (i + 1) a1 a3 a2 (fun j j0 j1 => ?_) ?_
    · by_cases e : j = i
      · rw [e]; omega
      · have := ha j j0 (by clear hb; omega)
        clear hb; omega
    · rcases Int.le_total t (ix y.1 i) with q | q
      · right; exact ⟨i, h0, by clear hb; omega, Int.max_eq_right q⟩
      · rw [Int.max_eq_left q]
        rcases hb with hb | ⟨j, j0, j1, e⟩
        · exact .inl hb
        · exact .inr ⟨j, j0, by omega, e⟩
theorem rl_out {g : List (List Int)} (hn : g.length ≤ 24) {q : List Int} (hq : Gr g.length (Ed g) q) (hno : ∀ w, ¬ IsNx g.length (Ed g) q w) (hl : q.length = g.length) :
    (∃ o, digraph_TopologicalOrder g = (o, true) ∧ o.length = g.length) ∧ ∃ d e, digraph_Levels g = (d, true) ∧ LE g.length (Ed g) d ∧ digraph_heights (digraph_clean g) = (e, true) ∧ LE g.length (fun w v => Ed g v w) e := by
  have hc := clean_cl g
  obtain ⟨ho, hno2⟩ := order_spec hc hn
  have e2 := ho.uniq hq hno2 hno
  refine ⟨⟨q, by
    rw [topo_eq g hn]
    obtain ⟨q', hq', hno', e⟩ := rt_spec g
    have := hq'.uniq hq hno' hno
    subst this
    rw [e, if_pos hl], hl⟩, ?_⟩
  obtain ⟨q', hq', hno', h⟩ := rl_spec g (by omega)
  have := hq'.uniq hq hno' hno
  subst this
  rcases h with ⟨_, d, ed, hd, _⟩ | ⟨h, _⟩
  · rcases heights_spec hc hn with ⟨e, ee, he, _⟩ | ⟨_, hne⟩
    · exact ⟨d, e, by rw [levels_eq g hn]; exact ed, hd, ee, he⟩
    · exact absurd (by rw [e2]; exact hl) hne
  · exact absurd hl h
theorem rl_none {g : List (List Int)} (hn : g.length ≤ 24) {q : List Int} (hq : Gr g.length (Ed g) q) (hno : ∀ w, ¬ IsNx g.length (Ed g) q w) (hl : q.length ≠ g.length) :
    digraph_TopologicalOrder g = ([], false) ∧ digraph_Levels g = ([], false) ∧ digraph_LongestPath g = ([], false) := by
  have hc := clean_cl g
  obtain ⟨ho, hno2⟩ := order_spec hc hn
  have e2 := ho.uniq hq hno2 hno
  refine ⟨?_, ?_, ?_⟩
  · rw [topo_eq g hn]
    obtain ⟨q', hq', hno', e⟩ := rt_spec g
    have := hq'.uniq hq hno' hno
    subst this
    rw [e, if_neg hl]
  · rw [levels_eq g hn]
    obtain ⟨q', hq', hno', h⟩ := rl_spec g (by omega)
    have := hq'.uniq hq hno' hno
    subst this
    rcases h with ⟨h, _⟩ | ⟨_, e⟩
    · exact absurd h hl
    · exact e
  · unfold digraph_LongestPath
    simp only [LET]
    rcases heights_spec hc hn with ⟨_, _, _, h⟩ | ⟨e, _⟩
    · exact absurd (by rw [← e2]; exact h) hl
    · rw [e]; simp
theorem DigraphAcyclic_law (g : List (List Int)) : law06_DigraphAcyclic g = true := by
  unfold law06_DigraphAcyclic
  simp only [LET, works_t]
  by_cases hL : law06_large g = true
  · rw [if_pos hL]
  rw [if_neg hL]
  have hs := large_sm rfl (by simpa using hL)
  have hn := hs.n
  have hc := clean_cl g
  rw [cycle_eq g hn]
  obtain ⟨q, hq, hno, _⟩ := rt_spec g
  have hsc := rsc_spec g hn (Int.toNat ((g.length : Int) - 0)) 0 rfl (Int.le_refl _)
  have esc : ref06_ShortestCycle g = ref06_ShortestCycle_L1 g (fun _ => []) (Int.toNat ((g.length : Int) - 0)) 0 := rfl
  rw [← esc] at hsc
  by_cases hl : q.length = g.length
  · obtain ⟨⟨o, eo, ol⟩, d, e, ed, hd, ee, he⟩ := rl_out hn hq hno hl
    -- no cycle
    have hcy : ref06_ShortestCycle g = [] := by
      rcases hsc with ⟨h, _⟩ | ⟨v, l, h, hch⟩
      · exact h
      · exfalso
        have hwalk : ∀ (l : List Int) (v z : Int), Ch g ((v :: l) ++ [z]) → ix d v + 1 ≤ ix d z := by
          intro l
          induction l with
          | nil =>
            intro v z h
            cases h with
            | cons e h => exact hd.ge _ _ e
          | cons w l ih =>
            intro v z h
            cases h with
            | cons e h =>
              have h1 := hd.ge _ _ e
              have h2 := ih w z h
              omega
        have := hwalk l v v hch
        omega
    rw [hcy, eo, ed]
    have elp : digraph_LongestPath g = if g.length = 0 then ([], true) else (digraph_descend (digraph_clean g) e (slices_Index__int_int_ e (slices_Max__int_int_ e)), true) := by
      unfold digraph_LongestPath
      simp only [LET]
      rw [ee]
      by_cases h0 : g.length = 0
      · rw [if_pos (by simp [h0]), if_pos h0]
      · rw [if_neg (by simp [h0]), if_neg h0]
    have hy2 : (digraph_LongestPath g).2 = true := by rw [elp]; split <;> rfl
    rw [hy2]
    rw [if_neg (by simp), if_neg (by simp)]
    have hdl := hd.len
    obtain ⟨t, et, ta, tb⟩ := top_L1 (d, true) (fun (x11_129 : Int) =>
      (((((decide ((o.length : Int) = (g.length : Int))) && (decide ((d.length : Int) = (g.length : Int)))) && (law06_path g (digraph_LongestPath g).1)) && (decide (((digraph_LongestPath g).1.length : Int) = (wr (x11_129 + 1))))) && true)) (by show d.length ≤ 1000; omega) (Int.toNat ((d.length : Int) - 0)) (-1) 0 rfl (Int.le_refl _) (by show (0 : Int) ≤ d.length; omega) (fun j j0 j1 => by omega) (.inl rfl)
    rw [et]
    simp only at ta tb
    by_cases h0 : g.length = 0
    · have ht : t = -1 := by
        rcases tb with h | ⟨j, j0, j1, _⟩
        · exact h
        · omega
      rw [elp, if_pos h0, ht]
      have : law06_path g [] = true := path_t (by simp) .nil
      simp only [ol, hdl, this, decide_true, Bool.and_self]
      have hz : wr 0 = 0 := wr_of (by omega) (by omega)
      simp [hz]
    · rw [elp, if_neg h0]
      have hel := he.len
      have hmx := max_use (l := e) (m := slices_Max__int_int_ e) (by omega) rfl
      obtain ⟨i0, i1, i2, _⟩ := idx_use (y := slices_Index__int_int_ e (slices_Max__int_int_ e)) hmx.1 rfl
      generalize slices_Index__int_int_ e (slices_Max__int_int_ e) = i at i0 i1 i2
      have hbe : WB e 100000 := (hts_use (y := (e, true)) (clean_gd hs rfl).self (by rw [hc.len]; exact hn) (clean_clx rfl) ee rfl).2
      have hdp := dd_dp hc hbe hel (le_rk he) i0 (by omega)
      have hch := (hdp.ch i0 (by omega)).1
      have hlen := hdp.len (he.nn i i0 (by omega))
      have hbi := hbe i i0 i1
      have htop : t = ix e i := by
        have h1 : ix e i ≤ t := by
          have := lev_le (A := fun w v => Ed g v w) (d := e) (e := d) (H := t) (fun u v a => ⟨a.2.2.1, a.2.2.2.1⟩) he hd (fun w w0 w1 => ta w w0 (by omega)) i0 (show i < (g.length : Int) by omega)
          exact this
        have h2 : t ≤ ix e i := by
          rcases tb with h | ⟨j, j0, j1, h⟩
          · have := he.nn i i0 (by omega); omega
          · rw [h]
            exact lev_le (A := Ed g) (fun u v a => ⟨a.1, a.2.1⟩) hd he (fun w w0 w1 => by rw [i2]; exact hmx.2 _ (ix_mem w0 (by omega))) j0 (by omega)
        omega
      have hp : law06_path g (digraph_descend (digraph_clean g) e i) = true := path_t (by omega) hch
      rw [htop, wr_of (n := ix e i + 1) (by omega) (by omega)]
      simp only [ol, hdl, hp, decide_true, Bool.and_self, hlen, Bool.and_true]
  · obtain ⟨e1, e2, e3⟩ := rl_none hn hq hno hl
    rw [e1, e2, e3]
    -- there is a cycle
    have hql := hq.len
    obtain ⟨u, u0, u1, uq⟩ : ∃ u : Int, 0 ≤ u ∧ u < g.length ∧ u ∉ q := Classical.byContradiction fun h => by
      have := nd_sub (k := q) (nds_nd g.length) fun v hv => Classical.byContradiction fun s => h ⟨v, (nds_mem.1 hv).1, (nds_mem.1 hv).2, s⟩
      have en : (nds g.length).length = g.length := by simp [nds]
      omega
    obtain ⟨v, k, w, hw, ha⟩ := back_ex (fun u v a => ⟨a.1, a.2.1⟩) hno u0 u1 uq
    rcases hsc with ⟨_, h⟩ | ⟨x, l, h, hch⟩
    · exfalso
      have hd := rdist_ds g w (by omega)
      have h1 := h w ha.1 ha.2.1 v ha
      have h2 := (ds_pos hd ha.2.2.1 ha.2.2.2.1).2 ⟨k, wk_rev k w hw⟩
      omega
    · rw [h]
      have hcl := cyc_len hs (y := x :: l) (by rw [cycle_eq g hn]; exact h)
      simp only [List.length_cons] at hcl
      have hp : law06_path g ((x :: l) ++ [ix (x :: l) 0]) = true := path_t (by simp; omega) hch
      have hne : (decide (((x :: l).length : Int) = 0)) = false := by simp; omega
      have hz : wr 0 = 0 := wr_of (by omega) (by omega)
      rw [hp, hne]
      simp [hz]
end Go.Proofs.Ytpdimhpjehfjeaa
