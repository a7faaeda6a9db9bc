/-
  Hand-written texts in one.
-/
import Derived.Test.YtpdimhpjehfjeaaKHb
import Derived.Test.YtpdimhpjehfjeaaKGbOrSpDsUsOk
set_option linter.unusedVariables false
set_option linter.unusedSimpArgs false
set_option maxRecDepth 100000
namespace Go.Proofs.Ytpdimhpjehfjeaa
open Go Go.Pb Go.RowKit
theorem hts_use {g : List (List Int)} {y : List Int × Bool} (hg : Gd g.length g) (hn : g.length ≤ 24) (hc : Clx g) (h : digraph_heights g = y) : y.2 = true → y.1.length = g.length ∧ WB y.1 100000 := fun e => by
  subst h
  unfold digraph_heights at e ⊢
  simp only [Bool.not_eq_true', decide_eq_false_iff_not] at e
  simp only [e, if_false]
  refine ⟨htsL_len _ _, fun k _ _ => ?_⟩
  have := (hts_eq hg (vs := (digraph_order g).reverse) (fun v hv => (ord_rg hc hn v (List.mem_reverse.1 hv)).1) (by rw [List.length_reverse]; exact ord_len hc hn)).2 k
  omega
theorem foldl_max_mem : ∀ (l : List Int) (a : Int), l.foldl max a = a ∨ l.foldl max a ∈ l
  | [], a => .inl rfl
  | b :: l, a => by
    rw [List.foldl_cons]
    rcases foldl_max_mem l (max a b) with h | h
    · rw [h]
      rcases Int.le_total a b with q | q
      · rw [Int.max_eq_right q]; exact .inr List.mem_cons_self
      · rw [Int.max_eq_left q]; exact .inl rfl
    · exact .inr (List.mem_cons_of_mem _ h)
theorem foldl_max_ge : ∀ (l : List Int) (a : Int), a ≤ l.foldl max a ∧ ∀ b ∈ l, b ≤ l.foldl max a
  | [], a => ⟨Int.le_refl _, fun b hb => by cases hb⟩
  | b :: l, a => by
    rw [List.foldl_cons]
    obtain ⟨h1, h2⟩ := foldl_max_ge l (max a b)
    refine ⟨by omega, fun c hc => ?_⟩
    rcases List.mem_cons.1 hc with rfl | hc
    · omega
    · exact h2 c hc
theorem max_use {l : List Int} {m : Int} (h0 : 0 < l.length) (h : slices_Max__int_int_ l = m) : m ∈ l ∧ ∀ b ∈ l, b ≤ m := by
  subst h
  unfold slices_Max__int_int_ maxL
  cases l with
  | nil => simp at h0
  | cons a l =>
    simp only [List.headD_cons]
    refine ⟨?_, (foldl_max_ge _ _).2⟩
    rcases foldl_max_mem (a :: l) a with h | h
    · rw [h]; exact List.mem_cons_self
    · exact h
theorem idx_L1 (l : List Int) (m : Int) (K : Unit → Int) (hm : m ∈ l) : ∀ (k : Nat) (i : Int), k = Int.toNat ((l.length : Int) - i) → 0 ≤ i → (∀ j : Int, 0 ≤ j → j < i → ix l j ≠ m) →
    0 ≤ slices_Index__int_int__L1 l m K k i ∧ slices_Index__int_int__L1 l m K k i < l.length ∧ ix l (slices_Index__int_int__L1 l m K k i) = m ∧ ∀ j : Int, 0 ≤ j → j < slices_Index__int_int__L1 l m K k i → ix l j ≠ m
  | 0, i, hk, h0, hj => by
    obtain ⟨j, j0, j1, e⟩ := mem_ix hm
    exact absurd e (hj j j0 (by omega))
  | k + 1, i, hk, h0, hj => by
    rw [slices_Index__int_int__L1]
    by_cases hc : m = ix l i
    · rw [if_pos (by simpa using hc)]
      exact ⟨h0, by omega, hc.symm, hj⟩
    · rw [if_neg (by simpa using hc)]
      refine idx_L1 l m K hm k (i + 1) (by omega) (by omega) fun j j0 j1 => ?_
      by_cases e : j = i
      · rw [e]; exact fun q => hc q.symm
      · exact hj j j0 (by omega)
theorem idx_use {l : List Int} {m y : Int} (hm : m ∈ l) (h : slices_Index__int_int_ l m = y) : 0 ≤ y ∧ y < l.length ∧ ix l y = m ∧ ∀ j : Int, 0 ≤ j → j < y → ix l j ≠ m := by
  subst h
  exact idx_L1 l m _ hm _ 0 rfl (Int.le_refl _) fun j j0 j1 => by omega
theorem desc_L2 (g : List (List Int)) (r : List Int) (v : Int) (K1 : Int → List Int → List Int) (K2 : List Int → List Int) : ∀ (m : Nat) (x i : Int) (z : List Int), digraph_descend_L2 g r v K1 K2 m x i z = K2 z ∨ ∃ w, digraph_descend_L2 g r v K1 K2 m x i z = K1 w (z ++ [w])
  | 0, x, i, z => .inl (by rw [digraph_descend_L2])
  | m + 1, x, i, z => by
    rw [digraph_descend_L2]
    split
    · exact .inr ⟨_, rfl⟩
    · exact desc_L2 g r v K1 K2 m x (i + 1) z
theorem desc_L1 (g : List (List Int)) (r : List Int) : ∀ (m : Nat) (v : Int) (z : List Int), (digraph_descend_L1 g r (fun z => z) m v z).length ≤ z.length + m
  | 0, v, z => by rw [digraph_descend_L1]; simp
  | m + 1, v, z => by
    rw [digraph_descend_L1]
    split
    · rcases desc_L2 g r v (fun a b => digraph_descend_L1 g r (fun z => z) m a b) (fun z => z) (Int.toNat (((ix g v).length : Int) - 0)) v 0 z with h | ⟨w, h⟩
      · rw [h]; omega
      · rw [h]
        have := desc_L1 g r m w (z ++ [w])
        rw [List.length_append, List.length_singleton] at this
        omega
    · omega
theorem desc_len {g : List (List Int)} {r y : List Int} {v b : Int} (hb : WB r b) (h0 : 0 ≤ v) (h1 : v < r.length) (h2 : b ≤ 100000) (h : digraph_descend g r v = y) : y.length ≤ 100001 := by
  subst h
  have := desc_L1 g r (Int.toNat (ix r v)) v [v]
  have := hb v h0 h1
  unfold digraph_descend
  simp only [List.length_singleton] at *
  omega
theorem rd_L4s (g : List (List Int)) (k v : Int) (K : List Int → List Int) : ∀ (m : Nat) (w : Int) (z : List Int), 0 ≤ ix z v → ref06_distances_L4 g k v K m w z = K z
  | 0, w, z, h => by rw [ref06_distances_L4]
  | m + 1, w, z, h => by
    rw [ref06_distances_L4, if_neg]
    simp only [Bool.and_eq_true, decide_eq_true_eq]
    omega
theorem rd_L4 (g : List (List Int)) (k v : Int) (hk : 0 ≤ k) (hk1 : k ≤ 1000) (v0 : 0 ≤ v) (v1 : v < g.length) (K : List Int → List Int) : ∀ (m : Nat) (w : Int) (z : List Int), m = Int.toNat ((g.length : Int) - w) → 0 ≤ w → z.length = g.length →
    ∃ z', ref06_distances_L4 g k v K m w z = K z' ∧ ((z' = z ∧ (0 ≤ ix z v ∨ ∀ x : Int, w ≤ x → x < g.length → ¬ (ix z x = k ∧ Ed g v x))) ∨ (ix z v < 0 ∧ (∃ x : Int, 0 ≤ x ∧ x < g.length ∧ ix z x = k ∧ Ed g v x) ∧ z' = z.set v.toNat (k + 1)))
  | 0, w, z, hm, h0, hz => ⟨z, by rw [ref06_distances_L4], .inl ⟨rfl, .inr fun x a b => by omega⟩⟩
  | m + 1, w, z, hm, h0, hz => by
    rw [ref06_distances_L4]
    by_cases hc : 0 ≤ ix z v
    · rw [if_neg (by simp only [Bool.and_eq_true, decide_eq_true_eq]; omega)]
      exact ⟨z, rfl, .inl ⟨rfl, .inl hc⟩⟩
    · rw [if_pos (by simp only [Bool.and_eq_true, decide_eq_true_eq]; omega)]
      by_cases he : ix z w = k ∧ Ed g v w
      · rw [if_pos (by simp only [Bool.and_eq_true, decide_eq_true_eq]; exact ⟨he.1, (edge_eq g v w).2 he.2⟩), wr_of (by omega) (by omega)]
        refine ⟨z.set v.toNat (k + 1), rd_L4s g k v K m (w + 1) _ ?_, .inr ⟨by omega, ⟨w, h0, by omega, he.1, he.2⟩, rfl⟩⟩
        rw [ix_set v0 (by omega) v0, if_pos rfl]; omega
      · rw [if_neg (by simp only [Bool.and_eq_true, decide_eq_true_eq]; exact fun q => he ⟨q.1, (edge_eq g v w).1 q.2⟩)]
        obtain ⟨z', e, h⟩ := rd_L4 g k v hk hk1 v0 v1 K m (w + 1) z (by omega) (by omega) hz
        refine ⟨z', e, ?_⟩
        rcases h with ⟨a, b | b⟩ | h
        · exact .inl ⟨a, .inl b⟩
        · refine .inl ⟨a, .inr fun x x0 x1 => ?_⟩
          by_cases ex : x = w
          · rw [ex]; exact he
          · exact b x (by omega) x1
        · exact .inr h
/-- What is known of a node when distances up to k are told. -/
def St (A : Int → Int → Prop) (s : Int) (k : Nat) (v x : Int) : Prop := (x = -1 ∧ ∀ j, j ≤ k → ¬ Wk A s j v) ∨ ∃ j : Nat, j ≤ k ∧ x = j ∧ Mn A s j v
theorem rd_L3 (g : List (List Int)) (s : Int) (k : Nat) (hk1 : k ≤ 1000) (K : List Int → List Int) : ∀ (m : Nat) (i : Int) (z : List Int), m = Int.toNat ((g.length : Int) - i) → 0 ≤ i → i ≤ g.length → z.length = g.length →
    (∀ v : Int, 0 ≤ v → v < g.length → St (fun u v => Ed g v u) s (if v < i then k + 1 else k) v (ix z v)) →
    ∃ z', ref06_distances_L3 g k K m i z = K z' ∧ z'.length = g.length ∧ ∀ v : Int, 0 ≤ v → v < g.length → St (fun u v => Ed g v u) s (k + 1) v (ix z' v)
  | 0, i, z, hm, h0, h1, hz, hs => ⟨z, by rw [ref06_distances_L3], hz, fun v v0 v1 => by have := hs v v0 v1; rwa [if_pos (by omega)] at this⟩
  | m + 1, i, z, hm, h0, h1, hz, hs => by
    have i1 : i < g.length := by omega
    have a1 : m = Int.toNat ((g.length : Int) - (i + 1)) := by omega
    have a2 : 0 ≤ i + 1 := by omega
    have a3 : i + 1 ≤ g.length := by omega
    rw [ref06_distances_L3]
    obtain ⟨z', e, h⟩ := rd_L4 g k i (by omega) (by omega) h0 i1 (fun z => ref06_distances_L3 g k K m (i + 1) z) (Int.toNat ((g.length : Int) - 0)) 0 z rfl (Int.le_refl _) hz
    rw [e]
    have hi := hs i h0 i1
    rw [if_neg (by omega)] at hi
    have hz' : z'.length = g.length := by
      rcases h with ⟨rfl, _⟩ | ⟨_, _, rfl⟩
      · exact hz
      · rw [List.length_set]; exact hz
    refine rd_L3 g s k hk1 K m (i + 1) z' a1 a2 a3 hz' fun v v0 v1 => ?_
    by_cases ev : v = i
    · subst ev
      rw [if_pos (by omega)]
      rcases h with ⟨rfl, h⟩ | ⟨hn, ⟨x, x0, x1, hx, hxe⟩, rfl⟩
      · rcases hi with ⟨a, b⟩ | ⟨j, a, b, d⟩
        · rcases h with h | h
          · omega
          · refine .inl ⟨a, fun j hj hw => ?_⟩
            by_cases hjk : j ≤ k
            · exact b j hjk hw
            · have ej : j = k + 1 := by omega
              subst ej
              obtain ⟨u, hu, ha⟩ := hw
              have hur := hs u ha.2.2.1 ha.2.2.2.1
              rcases hur with ⟨_, c⟩ | ⟨j, c1, c2, c3⟩
              · exact c k (by split <;> omega) hu
              · have hjk := c3.2 k hu
                by_cases e2 : j = k
                · subst e2
                  exact h u ha.2.2.1 ha.2.2.2.1 ⟨c2, ha⟩
                · exact b (j + 1) (by omega) ⟨u, c3.1, ha⟩
        · exact .inr ⟨j, by omega, b, d⟩
      · right
        rw [ix_set v0 (by omega) v0, if_pos rfl]
        rcases hi with ⟨a, b⟩ | ⟨j, _, b, _⟩
        · rcases hs x x0 x1 with ⟨c, _⟩ | ⟨j, c1, c2, c3⟩
          · omega
          · have ej : j = k := by omega
            subst ej
            exact ⟨j + 1, Nat.le_refl _, by omega, ⟨x, c3.1, hxe⟩, fun q hq => by
              rcases Nat.lt_or_ge j q with r | r
              · omega
              · exact absurd hq (b q r)⟩
        · omega
    · have hsame : ix z' v = ix z v := by
        rcases h with ⟨rfl, _⟩ | ⟨_, _, rfl⟩
        · rfl
        · rw [ix_set v0 (by omega) h0, if_neg ev]
      have := hs v v0 v1
      rw [hsame]
      by_cases hv : v < i
      · rw [if_pos hv] at this; rw [if_pos (by omega)]; exact this
      · rw [if_neg hv] at this; rw [if_neg (by omega)]; exact this
theorem rd_L2 (g : List (List Int)) (s : Int) (hn : g.length ≤ 1000) (K : List Int → List Int) : ∀ (m : Nat) (k : Nat) (z : List Int), m = Int.toNat ((g.length : Int) - k) → k ≤ g.length → z.length = g.length →
    (∀ v : Int, 0 ≤ v → v < g.length → St (fun u v => Ed g v u) s k v (ix z v)) →
    ∃ z', ref06_distances_L2 g K m k z = K z' ∧ z'.length = g.length ∧ ∀ v : Int, 0 ≤ v → v < g.length → St (fun u v => Ed g v u) s g.length v (ix z' v)
  | 0, k, z, hm, h1, hz, hs => by
    have e : k = g.length := by omega
    subst e
    exact ⟨z, by rw [ref06_distances_L2], hz, hs⟩
  | m + 1, k, z, hm, h1, hz, hs => by
    rw [ref06_distances_L2]
    obtain ⟨z', e, hz', hs'⟩ := rd_L3 g s k (by omega) (fun z => ref06_distances_L2 g K m (k + 1) z) (Int.toNat ((g.length : Int) - 0)) 0 z rfl (Int.le_refl _) (by omega) hz (fun v v0 v1 => by rw [if_neg (by omega)]; exact hs v v0 v1)
    rw [e]
    exact rd_L2 g s hn K m (k + 1) z' (by omega) (by omega) hz' hs'
theorem rfill_L1 (K : List Int → List Int) : ∀ (m : Nat) (i : Int) (z : List Int), m = Int.toNat ((z.length : Int) - i) → 0 ≤ i → i ≤ z.length → NB z i → ∃ z', ref06_distances_L1 K m i z = K z' ∧ z'.length = z.length ∧ NB z' z.length
  | 0, i, z, hm, h0, h1, h => ⟨z, by rw [ref06_distances_L1], rfl, h.mono (by omega)⟩
  | m + 1, i, z, hm, h0, h1, h => by
    rw [ref06_distances_L1]
    obtain ⟨z', a, b, c⟩ := rfill_L1 K m (i + 1) (z.set i.toNat (-1)) (by rw [List.length_set]; omega) (by omega) (by rw [List.length_set]; omega) (h.next h0 (by omega))
    rw [List.length_set] at b c
    exact ⟨z', a, b, c⟩
theorem rdist_ds (g : List (List Int)) (s : Int) (hn : g.length ≤ 1000) : Ds g.length (fun u v => Ed g v u) s (ref06_distances g s) := by
  unfold ref06_distances
  obtain ⟨z, e, hl, hb⟩ := rfill_L1 (fun (zE102_107 : List Int) =>
      if ((decide (s < 0)) || (decide ((g.length : Int) ≤ s))) then
        zE102_107
      else
      ref06_distances_L2 g (fun (zE102_134 : List Int) =>
          zE102_134) (Int.toNat ((g.length : Int) - 0)) 0 (zE102_107.set (s).toNat 0)) (Int.toNat ((g.length : Int) - 0)) 0 (List.replicate g.length (0 : Int)) (by simp) (Int.le_refl _) (by omega) NB.nil
  rw [e]
  rw [List.length_replicate] at hl hb
  by_cases hs : 0 ≤ s ∧ s < g.length
  · rw [if_neg (by simp only [Bool.or_eq_true, decide_eq_true_eq]; omega)]
    have hsl : (z.set s.toNat 0).length = g.length := by rw [List.length_set]; exact hl
    obtain ⟨z', e2, hz', hst⟩ := rd_L2 g s hn (fun (zE102_134 : List Int) => zE102_134) (Int.toNat ((g.length : Int) - 0)) 0 (z.set s.toNat 0) rfl (Nat.zero_le _) hsl (fun v v0 v1 => by
      rw [ix_set v0 (by omega) hs.1]
      split
      · rename_i e
        exact .inr ⟨0, Nat.le_refl _, rfl, e, fun j _ => Nat.zero_le _⟩
      · rename_i e
        refine .inl ⟨hb v v0 v1, fun j hj hw => ?_⟩
        obtain rfl : j = 0 := by omega
        exact e hw)
    rw [show ((0 : Nat) : Int) = 0 from rfl] at e2
    rw [e2]
    refine ⟨hz', fun v v0 v1 => ?_⟩
    have hlt : ∀ {k : Nat}, Mn (fun u v => Ed g v u) s k v → k < g.length := fun h => mn_lt (fun u v a => ⟨a.1, a.2.1⟩) hs h
    rcases hst v v0 v1 with ⟨a, b⟩ | ⟨j, a, b, d⟩
    · refine .inl ⟨a, fun k hk => ?_⟩
      obtain ⟨j, _, hm⟩ := wk_min k hk
      exact b j (Nat.le_of_lt (hlt hm)) hm.1
    · exact .inr ⟨j, b, d, hlt d⟩
  · rw [if_pos (by simp only [Bool.or_eq_true, decide_eq_true_eq]; omega)]
    refine ⟨hl, fun v v0 v1 => .inl ⟨hb v v0 v1, fun k => no_wk (fun u w ha e => hs ?_) k v (fun e => hs ?_)⟩⟩
    · subst e; exact ⟨ha.2.2.1, ha.2.2.2.1⟩
    · subst e; exact ⟨v0, v1⟩
theorem rdist_use {g : List (List Int)} {s : Int} {y : List Int} (hn : g.length ≤ 1000) (h : ref06_distances g s = y) : y.length = g.length ∧ WB y 1000 := by
  subst h
  have := rdist_ds g s hn
  exact ⟨this.len, this.wb hn⟩
/-! The order -/
/-- Marked: what has been put out. -/
def Mk (n : Nat) (o : List Int) (p : List Bool) : Prop := p.length = n ∧ ∀ v : Int, 0 ≤ v → v < n → (ix p v = true ↔ v ∈ o)
theorem rt_L3 (g : List (List Int)) (o : List Int) (p : List Bool) (hp : Mk g.length o p) (w : Int) (K : Bool → List Int × Bool) : ∀ (m : Nat) (b : Bool) (i : Int), m = Int.toNat ((g.length : Int) - i) → 0 ≤ i →
    ∃ c, ref06_TopologicalOrder_L3 g p w K m b i = K c ∧ (c = true ↔ b = true ∧ ∀ v : Int, i ≤ v → Ed g v w → v ∈ o)
  | 0, b, i, hm, h0 => ⟨b, by rw [ref06_TopologicalOrder_L3], ⟨fun h => ⟨h, fun v hv he => by have := he.2.1; omega⟩, fun h => h.1⟩⟩
  | m + 1, b, i, hm, h0 => by
    rw [ref06_TopologicalOrder_L3]
    by_cases hb : b = true
    · rw [if_pos (by simp only [Bool.and_eq_true, decide_eq_true_eq]; exact ⟨by omega, hb⟩)]
      obtain ⟨c, e, h⟩ := rt_L3 g o p hp w K m ((ix p i) || (!(ref06_Edge g i w))) (i + 1) (by omega) (by omega)
      refine ⟨c, e, h.trans ⟨fun ⟨a, d⟩ => ⟨hb, fun v hv he => ?_⟩, fun ⟨_, d⟩ => ⟨?_, fun v hv he => d v (by omega) he⟩⟩⟩
      · by_cases ev : v = i
        · subst ev
          rw [Bool.or_eq_true] at a
          rcases a with a | a
          · exact (hp.2 v he.1 he.2.1).1 a
          · rw [(edge_eq g v w).2 he] at a; cases a
        · exact d v (by omega) he
      · rw [Bool.or_eq_true]
        by_cases he : Ed g i w
        · left; exact (hp.2 i he.1 he.2.1).2 (d i (Int.le_refl _) he)
        · right; rw [(edge_false g i w).2 he]; rfl
    · rw [if_neg (by simp only [Bool.and_eq_true, decide_eq_true_eq]; exact fun q => hb q.2)]
      exact ⟨b, rfl, ⟨fun h => absurd h hb, fun h => h.1⟩⟩
theorem rt_L2 (g : List (List Int)) (o : List Int) (p : List Bool) (hp : Mk g.length o p) (K : Int → List Int × Bool) : ∀ (m : Nat) (i : Int), m = Int.toNat ((g.length : Int) - i) → 0 ≤ i → i ≤ g.length →
    (∀ u : Int, 0 ≤ u → u < i → u ∉ o → ∃ v, Ed g v u ∧ v ∉ o) →
    (∃ w, IsNx g.length (Ed g) o w ∧ ref06_TopologicalOrder_L2 g p K m (-1) i = K w) ∨ ((∀ w, ¬ IsNx g.length (Ed g) o w) ∧ ref06_TopologicalOrder_L2 g p K m (-1) i = K (-1))
  | 0, i, hm, h0, h1, hu => by
    right
    refine ⟨fun w hw => ?_, by rw [ref06_TopologicalOrder_L2]⟩
    obtain ⟨v, a, b⟩ := hu w hw.h0 (by have := hw.h1; omega) hw.new
    exact b (hw.pre v a)
  | m + 1, i, hm, h0, h1, hu => by
    have hi : i < g.length := by omega
    rw [ref06_TopologicalOrder_L2, if_pos (by simp only [Bool.and_eq_true, decide_eq_true_eq]; omega)]
    obtain ⟨c, e, hc⟩ := rt_L3 g o p hp i (fun (x8_121 : Bool) =>
          if x8_121 then
            ref06_TopologicalOrder_L2 g p K m i (i + 1)
          else
          ref06_TopologicalOrder_L2 g p K m (-1) (i + 1)) (Int.toNat ((g.length : Int) - 0)) (!(ix p i)) 0 rfl (Int.le_refl _)
    rw [e]
    have hpi : (!(ix p i)) = true ↔ i ∉ o := by
      rw [← hp.2 i h0 hi]; simp
    by_cases ec : c = true
    · left
      rw [hpi] at hc
      obtain ⟨a, d⟩ := hc.1 ec
      refine ⟨i, ⟨h0, hi, a, fun v he => d v he.1 he, hu⟩, ?_⟩
      rw [if_pos ec]
      cases m with
      | zero => rw [ref06_TopologicalOrder_L2]
      | succ m => rw [ref06_TopologicalOrder_L2, if_neg (by simp only [Bool.and_eq_true, decide_eq_true_eq]; omega)]
    · rw [if_neg ec]
      refine rt_L2 g o p hp K m (i + 1) (by omega) (by omega) (by omega) fun u u0 u1 uo => ?_
      by_cases eu : u = i
      · subst eu
        rw [hc, hpi] at ec
        exact Classical.byContradiction fun q => ec ⟨uo, fun v _ he => Classical.byContradiction fun r => q ⟨v, he, r⟩⟩
      · exact hu u u0 (by omega) uo
theorem rt_L1 (g : List (List Int)) : ∀ (m : Nat) (o : List Int) (p : List Bool), (g.length : Int) - o.length ≤ m → Mk g.length o p → Gr g.length (Ed g) o →
    ∃ q, Gr g.length (Ed g) q ∧ (∀ w, ¬ IsNx g.length (Ed g) q w) ∧ ref06_TopologicalOrder_L1 g (fun o _ => (o, true)) m o p = if q.length = g.length then (q, true) else ([], false)
  | 0, o, p, hm, hp, hg => by
    have hl := hg.len
    refine ⟨o, hg, fun w hx => ?_, by rw [ref06_TopologicalOrder_L1, if_pos (by omega)]⟩
    have := nd_len g.length (w :: o) (List.nodup_cons.2 ⟨hx.new, hg.nd⟩) fun v hv => by
      rcases List.mem_cons.1 hv with rfl | hv
      · exact ⟨hx.h0, hx.h1⟩
      · exact hg.rg v hv
    simp only [List.length_cons] at this
    omega
  | m + 1, o, p, hm, hp, hg => by
    have hl := hg.len
    rw [ref06_TopologicalOrder_L1]
    by_cases hc : o.length < g.length
    · rw [if_pos (by simp only [decide_eq_true_eq]; omega)]
      rcases rt_L2 g o p hp (fun (x6_123 : Int) =>
          if (decide (x6_123 < 0)) then
            (([] : List Int), false)
          else
          ref06_TopologicalOrder_L1 g (fun o _ => (o, true)) m (o ++ ([x6_123] : List Int)) (p.set (x6_123).toNat true)) (Int.toNat ((g.length : Int) - 0)) 0 rfl (Int.le_refl _) (by omega) (fun u u0 u1 => by omega) with ⟨w, hw, e⟩ | ⟨hno, e⟩
      · have hw0 := hw.h0
        rw [e, if_neg (by simp only [decide_eq_true_eq]; omega)]
        refine rt_L1 g m (o ++ [w]) _ (by rw [List.length_append, List.length_singleton]; omega) ⟨by rw [List.length_set]; exact hp.1, fun v v0 v1 => ?_⟩ (.snoc hg hw)
        rw [ix_set v0 (by rw [hp.1]; exact v1) hw.h0, List.mem_append, List.mem_singleton]
        split
        · rename_i e; simp [e]
        · rename_i e; rw [hp.2 v v0 v1]; simp [e]
      · rw [e, if_pos (by decide)]
        exact ⟨o, hg, hno, by rw [if_neg (by omega)]⟩
    · rw [if_neg (by simp only [decide_eq_true_eq]; omega)]
      refine ⟨o, hg, fun w hx => ?_, by rw [if_pos (by omega)]⟩
      have := nd_len g.length (w :: o) (List.nodup_cons.2 ⟨hx.new, hg.nd⟩) fun v hv => by
        rcases List.mem_cons.1 hv with rfl | hv
        · exact ⟨hx.h0, hx.h1⟩
        · exact hg.rg v hv
      simp only [List.length_cons] at this
      omega
theorem rt_spec (g : List (List Int)) : ∃ q, Gr g.length (Ed g) q ∧ (∀ w, ¬ IsNx g.length (Ed g) q w) ∧ ref06_TopologicalOrder g = if q.length = g.length then (q, true) else ([], false) := by
  unfold ref06_TopologicalOrder
  exact rt_L1 g _ [] _ (by simp only [List.length_nil]; omega) ⟨by simp, fun v v0 v1 => by rw [ix_rep v0 v1]; simp⟩ .nil
theorem rt_use {g : List (List Int)} {y : List Int × Bool} (h : ref06_TopologicalOrder g = y) : y.2 = true → y.1.length = g.length ∧ ∀ k : Int, 0 ≤ k → k < y.1.length → 0 ≤ ix y.1 k ∧ ix y.1 k < g.length := fun e => by
  subst h
  obtain ⟨q, hq, _, eq⟩ := rt_spec g
  rw [eq] at e ⊢
  split
  · rename_i hl
    exact ⟨hl, fun k k0 k1 => hq.rg _ (ix_mem k0 k1)⟩
  · rename_i hl
    rw [if_neg hl] at e
    cases e
/-- Every node's number is the greatest of its predecessors' and one, or 0. -/
structure LE (n : Nat) (A : Int → Int → Prop) (d : List Int) : Prop where
  len : d.length = n
  nn : ∀ w : Int, 0 ≤ w → w < n → 0 ≤ ix d w
  ge : ∀ v w : Int, A v w → ix d v + 1 ≤ ix d w
  at_ : ∀ w : Int, 0 ≤ w → w < n → ix d w = 0 ∨ ∃ v, A v w ∧ ix d w = ix d v + 1
section
variable {n : Nat} {A : Int → Int → Prop}
theorem gr_all {o : List Int} (h : Gr n A o) (hl : o.length = n) {w : Int} (w0 : 0 ≤ w) (w1 : w < n) : w ∈ o := by
  refine Classical.byContradiction fun hw => ?_
  have := nd_len n (w :: o) (List.nodup_cons.2 ⟨hw, h.nd⟩) fun v hv => by
    rcases List.mem_cons.1 hv with rfl | hv
    · exact ⟨w0, w1⟩
    · exact h.rg v hv
  simp only [List.length_cons] at this
  omega
theorem Gr.pre {o : List Int} (h : Gr n A o) : ∀ {p t : List Int}, o = p ++ t → Gr n A p := by
  induction h with
  | nil =>
    intro p t e
    have := List.append_eq_nil_iff.1 e.symm
    rw [this.1]; exact .nil
  | @snoc o w h hw ih =>
    intro p t e
    rcases List.eq_nil_or_concat t with rfl | ⟨t', y, rfl⟩
    · rw [List.append_nil] at e
      rw [← e]; exact .snoc h hw
    · rw [List.concat_eq_append, ← List.append_assoc] at e
      exact ih (List.append_inj' e rfl).1
theorem LE.uniq (hA : ∀ v w, A v w → 0 ≤ v ∧ v < (n : Int)) {o d e : List Int} (h : Gr n A o) (hl : o.length = n) (hd : LE n A d) (he : LE n A e) : d = e := by
  have key : ∀ w ∈ o, ix d w = ix e w := by
    clear hl
    induction h with
    | nil => intro w hw; cases hw
    | @snoc o w h hw ih =>
      intro x hx
      rcases List.mem_append.1 hx with hx | hx
      · exact ih x hx
      · simp only [List.mem_singleton] at hx
        subst hx
        have h1 : ∀ {d e : List Int}, LE n A d → LE n A e → (∀ w ∈ o, ix d w = ix e w) → ix d x ≤ ix e x := by
          intro d e hd he hs
          rcases hd.at_ x hw.h0 hw.h1 with q | ⟨v, a, q⟩
          · have := he.nn x hw.h0 hw.h1; omega
          · have := he.ge v x a
            have := hs v (hw.pre v a)
            omega
        have := h1 hd he ih
        have := h1 he hd fun w hw => (ih w hw).symm
        omega
  refine ext_ix (by rw [hd.len, he.len]) fun v v0 v1 => ?_
  rw [hd.len] at v1
  exact key v (gr_all h hl v0 v1)
end
/-! Heights -/
theorem ht_fold (v : Int) (v0 : 0 ≤ v) : ∀ (l d : List Int), v ∉ l → v < d.length → (∀ w ∈ l, 0 ≤ w ∧ w < d.length) →
    (l.foldl (htOne v) d).length = d.length ∧ (∀ u : Int, 0 ≤ u → u < d.length → u ≠ v → ix (l.foldl (htOne v) d) u = ix d u) ∧ ix d v ≤ ix (l.foldl (htOne v) d) v ∧ (∀ w ∈ l, ix d w + 1 ≤ ix (l.foldl (htOne v) d) v) ∧
      (ix (l.foldl (htOne v) d) v = ix d v ∨ ∃ w ∈ l, ix (l.foldl (htOne v) d) v = ix d w + 1)
  | [], d, _, _, _ => ⟨rfl, fun u _ _ _ => rfl, Int.le_refl _, fun w hw => (by cases hw), Or.inl rfl⟩
  | w :: l, d, hv, h1, hw => by
    have hwv : w ≠ v := fun e => hv (e ▸ List.mem_cons_self)
    have hlen : (htOne v d w).length = d.length := by rw [htOne, List.length_set]
    have hat : ix (htOne v d w) v = max (ix d v) (ix d w + 1) := by rw [htOne, ix_set v0 h1 v0, if_pos rfl]
    have hne : ∀ u : Int, 0 ≤ u → u < d.length → u ≠ v → ix (htOne v d w) u = ix d u := fun u u0 u1 e => by rw [htOne, ix_set u0 u1 v0, if_neg e]
    obtain ⟨a, b, c, e, f⟩ := ht_fold v v0 l (htOne v d w) (fun q => hv (List.mem_cons_of_mem _ q)) (by rw [hlen]; exact h1) (fun u hu => by rw [hlen]; exact hw u (List.mem_cons_of_mem _ hu))
    rw [List.foldl_cons]
    have hin : ∀ u ∈ l, ix (htOne v d w) u = ix d u := fun u hu => by
      have := hw u (List.mem_cons_of_mem _ hu)
      exact hne u this.1 this.2 fun e => hv (e ▸ List.mem_cons_of_mem _ hu)
    rw [hat] at c f
    refine ⟨by rw [a, hlen], fun u u0 u1 hu => by rw [b u u0 (by rw [hlen]; exact u1) hu, hne u u0 u1 hu], by omega, fun u hu => ?_, ?_⟩
    · rcases List.mem_cons.1 hu with rfl | hu
      · omega
      · have := e u hu; rw [hin u hu] at this; exact this
    · rcases f with f | ⟨u, hu, f⟩
      · rcases Int.le_total (ix d v) (ix d w + 1) with q | q
        · right; exact ⟨w, List.mem_cons_self, by rw [f]; exact Int.max_eq_right q⟩
        · left; rw [f]; exact Int.max_eq_left q
      · right; exact ⟨u, List.mem_cons_of_mem _ hu, by rw [f, hin u hu]⟩
section
variable {n : Nat} {c : List (List Int)} {A : Int → Int → Prop}
theorem hts_suffix (h : Cl n c A) {o : List Int} (ho : Gr n A o) (hl : o.length = n) : ∀ (q p : List Int), o = p ++ q →
    (q.reverse.foldl (htStep c) (List.replicate n 0)).length = n ∧
    (∀ v ∈ q, 0 ≤ ix (q.reverse.foldl (htStep c) (List.replicate n 0)) v ∧ (∀ w, A v w → ix (q.reverse.foldl (htStep c) (List.replicate n 0)) w + 1 ≤ ix (q.reverse.foldl (htStep c) (List.replicate n 0)) v) ∧
      (ix (q.reverse.foldl (htStep c) (List.replicate n 0)) v = 0 ∨ ∃ w, A v w ∧ ix (q.reverse.foldl (htStep c) (List.replicate n 0)) v = ix (q.reverse.foldl (htStep c) (List.replicate n 0)) w + 1)) ∧
    (∀ v : Int, 0 ≤ v → v < n → v ∉ q → ix (q.reverse.foldl (htStep c) (List.replicate n 0)) v = 0)
  | [], p, e => ⟨by simp, fun v hv => (by cases hv), fun v v0 v1 _ => ix_rep v0 v1⟩
  | v :: q, p, e => by
    obtain ⟨hlen, hin, hout⟩ := hts_suffix h ho hl q (p ++ [v]) (by rw [e]; simp)
    simp only [List.reverse_cons, List.foldl_append, List.foldl_cons, List.foldl_nil]
    generalize q.reverse.foldl (htStep c) (List.replicate n 0) = d at hlen hin hout ⊢
    have hnd := ho.nd
    rw [e] at hnd
    have hvm : v ∈ o := by rw [e]; simp
    obtain ⟨v0, v1⟩ := ho.rg v hvm
    have hp : Gr n A p := ho.pre e
    have hx : IsNx n A p v := ho.at ⟨q, by rw [e]; simp⟩
    have hvq : v ∉ q := (List.nodup_cons.1 ((List.nodup_append.1 hnd).2.1)).1
    have hsucc : ∀ w, A v w → w ∈ q := fun w ha => by
      obtain ⟨_, _, w0, w1⟩ := h.rg v w ha
      have hw := gr_all ho hl w0 w1
      rw [e] at hw
      rcases List.mem_append.1 hw with hw | hw
      · exact absurd (hp.clo w hw v ha) hx.new
      · rcases List.mem_cons.1 hw with rfl | hw
        · exact absurd (hx.pre w ha) hx.new
        · exact hw
    have hrow : ∀ w, w ∈ ix c v ↔ A v w := fun w => h.mem v w v0 v1
    obtain ⟨a, b, c', e', f⟩ := ht_fold v v0 (ix c v) d (fun q' => hvq (hsucc v ((hrow v).1 q'))) (by rw [hlen]; exact v1) (fun w hw => by rw [hlen]; have := h.rg v w ((hrow w).1 hw); omega)
    have hdv := hout v v0 v1 hvq
    have hqr : ∀ w ∈ q, 0 ≤ w ∧ w < (n : Int) ∧ w ≠ v := fun w hw => by
      have := ho.rg w (by rw [e]; simp [hw])
      exact ⟨this.1, this.2, fun q' => hvq (q' ▸ hw)⟩
    have hsame : ∀ w ∈ q, ix (htStep c d v) w = ix d w := fun w hw => by
      obtain ⟨w0, w1, wv⟩ := hqr w hw
      exact b w w0 (by rw [hlen]; exact w1) wv
    unfold htStep at hsame ⊢
    refine ⟨by rw [a, hlen], fun u hu => ?_, fun u u0 u1 hu => ?_⟩
    · rcases List.mem_cons.1 hu with rfl | hu
      · refine ⟨by omega, fun w ha => ?_, ?_⟩
        · rw [hsame w (hsucc w ha)]; exact e' w ((hrow w).2 ha)
        · rcases f with f | ⟨w, hw, f⟩
          · left; rw [f, hdv]
          · right; exact ⟨w, (hrow w).1 hw, by rw [f, hsame w (hsucc w ((hrow w).1 hw))]⟩
      · obtain ⟨h1, h2, h3⟩ := hin u hu
        obtain ⟨u0, u1, uv⟩ := hqr u hu
        have huq : u ∈ q := hu
        have hsq : ∀ w, A u w → w ∈ q := fun w ha => by
          obtain ⟨_, _, w0, w1⟩ := h.rg u w ha
          have hw := gr_all ho hl w0 w1
          rw [e] at hw
          rcases List.mem_append.1 hw with hw | hw
          · have := hp.clo w hw u ha
            exact absurd rfl ((List.nodup_append.1 hnd).2.2 u this u (List.mem_cons_of_mem _ huq))
          · rcases List.mem_cons.1 hw with rfl | hw
            · exact absurd rfl ((List.nodup_append.1 hnd).2.2 u (hx.pre u ha) u (List.mem_cons_of_mem _ huq))
            · exact hw
        rw [hsame u hu]
        refine ⟨h1, fun w ha => by rw [hsame w (hsq w ha)]; exact h2 w ha, ?_⟩
        rcases h3 with h3 | ⟨w, ha, h3⟩
        · exact .inl h3
        · exact .inr ⟨w, ha, by rw [hsame w (hsq w ha)]; exact h3⟩
    · simp only [List.mem_cons, not_or] at hu
      rw [b u u0 (by rw [hlen]; exact u1) hu.1]
      exact hout u u0 u1 hu.2
theorem hts_le (h : Cl n c A) {o : List Int} (ho : Gr n A o) (hl : o.length = n) : LE n (fun w v => A v w) (htsL c o.reverse) := by
  obtain ⟨a, b, _⟩ := hts_suffix h ho hl o [] rfl
  unfold htsL
  rw [h.len]
  refine ⟨a, fun w w0 w1 => (b w (gr_all ho hl w0 w1)).1, fun v w ha => ?_, fun w w0 w1 => (b w (gr_all ho hl w0 w1)).2.2⟩
  obtain ⟨w0, w1, _, _⟩ := h.rg w v ha
  exact (b w (gr_all ho hl w0 w1)).2.1 v ha
end
/-! The reference's levels -/
theorem rl_L2 (g : List (List Int)) (y : List Int × Bool) (i : Int) (b : Int) (hb : 0 ≤ b) (hb1 : b ≤ 1000) (w0 : 0 ≤ ix y.1 i) (w1 : ix y.1 i < g.length) (hself : ¬ Ed g (ix y.1 i) (ix y.1 i)) (d : List Int) (hbd : ∀ u : Int, 0 ≤ u → u < g.length → 0 ≤ ix d u ∧ ix d u ≤ b) (K : List Int → List Int × Bool) :
    ∀ (m : Nat) (j : Int) (z : List Int), m = Int.toNat ((g.length : Int) - j) → 0 ≤ j → z.length = g.length → (∀ u : Int, 0 ≤ u → u < g.length → u ≠ ix y.1 i → ix z u = ix d u) → 0 ≤ ix z (ix y.1 i) →
      (∀ v : Int, v < j → Ed g v (ix y.1 i) → ix d v + 1 ≤ ix z (ix y.1 i)) → (ix z (ix y.1 i) = 0 ∨ ∃ v, Ed g v (ix y.1 i) ∧ ix z (ix y.1 i) = ix d v + 1) →
      ∃ z', ref06_Levels_L2 g y i K m j z = K z' ∧ z'.length = g.length ∧ (∀ u : Int, 0 ≤ u → u < g.length → u ≠ ix y.1 i → ix z' u = ix d u) ∧ 0 ≤ ix z' (ix y.1 i) ∧
        (∀ v : Int, Ed g v (ix y.1 i) → ix d v + 1 ≤ ix z' (ix y.1 i)) ∧ (ix z' (ix y.1 i) = 0 ∨ ∃ v, Ed g v (ix y.1 i) ∧ ix z' (ix y.1 i) = ix d v + 1)
  | 0, j, z, hm, j0, hz, hs, hn, hg, ha => ⟨z, by rw [ref06_Levels_L2], hz, hs, hn, fun v he => hg v (by have := he.2.1; omega) he, ha⟩
  | m + 1, j, z, hm, j0, hz, hs, hn, hg, ha => by
    rw [ref06_Levels_L2]
    simp only [LET]
    have a1 : m = Int.toNat ((g.length : Int) - (j + 1)) := by clear ha; omega
    have a2 : 0 ≤ j + 1 := by clear ha; omega
    by_cases he : Ed g j (ix y.1 i)
    · rw [if_pos ((edge_eq _ _ _).2 he)]
      have hjw : j ≠ ix y.1 i := fun e => hself (e ▸ he)
      have hzj := hs j he.1 he.2.1 hjw
      have hbj := hbd j he.1 he.2.1
      have ew : wr (ix z j + 1) = ix d j + 1 := by rw [hzj]; exact wr_of (by clear ha; omega) (by clear ha; omega)
      rw [ew]
      have hat : ix (z.set (ix y.1 i).toNat (max (ix z (ix y.1 i)) (ix d j + 1))) (ix y.1 i) = max (ix z (ix y.1 i)) (ix d j + 1) := by rw [ix_set w0 (by clear ha; omega) w0, if_pos rfl]
      refine rl_L2 g y i b hb hb1 w0 w1 hself d hbd K m (j + 1) _ a1 a2 (by rw [List.length_set]; exact hz) (fun u u0 u1 uw => by rw [ix_set u0 (by clear ha; omega) w0, if_neg uw]; exact hs u u0 u1 uw) (by rw [hat]; clear ha; omega) (fun v hv hve => ?_) ?_
      · rw [hat]
        by_cases e : v = j
        · rw [e]; clear ha; omega
        · have := hg v (by clear ha; omega) hve; clear ha; omega
      · rw [hat]
        rcases Int.le_total (ix z (ix y.1 i)) (ix d j + 1) with q | q
        · right; exact ⟨j, he, Int.max_eq_right q⟩
        · rw [Int.max_eq_left q]; exact ha
    · rw [if_neg (fun q => he ((edge_eq _ _ _).1 q))]
      refine rl_L2 g y i b hb hb1 w0 w1 hself d hbd K m (j + 1) z a1 a2 hz hs hn (fun v hv hve => ?_) ha
      by_cases e : v = j
      · rw [e] at hve; exact absurd hve he
      · exact hg v (by clear ha; omega) hve
/-- Levels of what has been put out. -/
structure LP (g : List (List Int)) (p d : List Int) (b : Int) : Prop where
  len : d.length = g.length
  bd : ∀ u : Int, 0 ≤ u → u < g.length → 0 ≤ ix d u ∧ ix d u ≤ b
  ge : ∀ w ∈ p, ∀ v, Ed g v w → ix d v + 1 ≤ ix d w
  at_ : ∀ w ∈ p, ix d w = 0 ∨ ∃ v, Ed g v w ∧ ix d w = ix d v + 1
  zr : ∀ u : Int, 0 ≤ u → u < g.length → u ∉ p → ix d u = 0
theorem rl_L1 (g : List (List Int)) (o : List Int) (ho : Gr g.length (Ed g) o) (hn : g.length ≤ 900) : ∀ (m : Nat) (i : Int) (d : List Int), m = Int.toNat ((o.length : Int) - i) → 0 ≤ i → i ≤ o.length → LP g (o.take i.toNat) d i →
    ∃ d', ref06_Levels_L1 g (o, true) (fun d => (d, true)) m i d = (d', true) ∧ LP g o d' o.length
  | 0, i, d, hm, h0, h1, hd => by
    have e : i = o.length := by omega
    subst e
    rw [List.take_of_length_le (by omega)] at hd
    exact ⟨d, by rw [ref06_Levels_L1], hd⟩
  | m + 1, i, d, hm, h0, h1, hd => by
    have hi : i < o.length := by omega
    have hol := ho.len
    have a1 : m = Int.toNat ((o.length : Int) - (i + 1)) := by omega
    have a2 : 0 ≤ i + 1 := by omega
    have a3 : i + 1 ≤ o.length := by omega
    have a4 : i ≤ 1000 := by omega
    rw [ref06_Levels_L1]
    have etk : o.take (i + 1).toNat = o.take i.toNat ++ [ix o i] := by rw [show (i + 1).toNat = i.toNat + 1 by omega, List.take_succ_eq_append_getElem (by omega), ix_lt h0 hi]
    have hx : IsNx g.length (Ed g) (o.take i.toNat) (ix o i) := ho.at ⟨o.drop (i + 1).toNat, by rw [← etk]; exact List.take_append_drop _ _⟩
    obtain ⟨z, e, hl, hs, hnn, hge, hat⟩ := rl_L2 g (o, true) i i h0 a4 hx.h0 hx.h1 (fun q => hx.new (hx.pre _ q)) d hd.bd (fun z => ref06_Levels_L1 g (o, true) (fun d => (d, true)) m (i + 1) z) (Int.toNat ((g.length : Int) - 0)) 0 d rfl (Int.le_refl _) hd.len (fun _ _ _ _ => rfl) (hd.bd _ hx.h0 hx.h1).1 (fun v hv he => absurd he.1 (by omega)) (.inl (hd.zr _ hx.h0 hx.h1 hx.new))
    rw [e]
    have hp : Gr g.length (Ed g) (o.take i.toNat) := ho.pre (t := o.drop i.toNat) (List.take_append_drop _ _).symm
    have hpw : ∀ u ∈ o.take i.toNat, u ≠ ix o i := fun u hu e => hx.new (e ▸ hu)
    have hsame : ∀ u ∈ o.take i.toNat, ix z u = ix d u := fun u hu => by
      have := hp.rg u hu
      exact hs u this.1 this.2 (hpw u hu)
    refine rl_L1 g o ho hn m (i + 1) z a1 a2 a3 ?_
    rw [etk]
    have hdb := hd.bd
    refine ⟨hl, fun u u0 u1 => ?_, fun w hw v hv => ?_, fun w hw => ?_, fun u u0 u1 hu => ?_⟩
    · by_cases eu : u = ix o i
      · subst eu
        refine ⟨hnn, ?_⟩
        rcases hat with q | ⟨v, a, q⟩
        · have q' : ix z (ix o i) = 0 := q
          clear hs hge; omega
        · have := (hdb v a.1 a.2.1).2
          have q' : ix z (ix o i) = ix d v + 1 := q
          clear hs hge; omega
      · rw [hs u u0 u1 eu]
        have := hdb u u0 u1
        clear hat hs hge; omega
    · rcases List.mem_append.1 hw with hw | hw
      · rw [hsame w hw, hsame v (hp.clo w hw v hv)]
        exact hd.ge w hw v hv
      · simp only [List.mem_singleton] at hw
        subst hw
        rw [hsame v (hx.pre v hv)]
        exact hge v hv
    · rcases List.mem_append.1 hw with hw | hw
      · rw [hsame w hw]
        rcases hd.at_ w hw with q | ⟨v, a, q⟩
        · exact .inl q
        · exact .inr ⟨v, a, by rw [hsame v (hp.clo w hw v a)]; exact q⟩
      · simp only [List.mem_singleton] at hw
        subst hw
        rcases hat with q | ⟨v, a, q⟩
        · exact .inl q
        · exact .inr ⟨v, a, by rw [hsame v (hx.pre v a)]; exact q⟩
    · simp only [List.mem_append, List.mem_singleton, not_or] at hu
      rw [hs u u0 u1 hu.2]
      exact hd.zr u u0 u1 hu.1
theorem rl_spec (g : List (List Int)) (hn : g.length ≤ 900) : ∃ q, Gr g.length (Ed g) q ∧ (∀ w, ¬ IsNx g.length (Ed g) q w) ∧
    ((q.length = g.length ∧ ∃ d, ref06_Levels g = (d, true) ∧ LE g.length (Ed g) d ∧ ∀ u : Int, 0 ≤ u → u < g.length → ix d u ≤ g.length) ∨ (q.length ≠ g.length ∧ ref06_Levels g = ([], false))) := by
  obtain ⟨q, hq, hno, e⟩ := rt_spec g
  refine ⟨q, hq, hno, ?_⟩
  unfold ref06_Levels
  rw [e]
  simp only [LET]
  by_cases hl : q.length = g.length
  · left
    refine ⟨hl, ?_⟩
    rw [if_pos hl]
    simp only [Bool.not_true, Bool.false_eq_true, if_false]
    obtain ⟨d, e2, hd⟩ := rl_L1 g q hq hn (Int.toNat ((q.length : Int) - 0)) 0 (List.replicate g.length 0) rfl (Int.le_refl _) (by omega) ⟨by simp, fun u u0 u1 => by rw [ix_rep u0 u1]; omega, fun w hw => by simp at hw, fun w hw => by simp at hw, fun u u0 u1 _ => ix_rep u0 u1⟩
    refine ⟨d, e2, ⟨hd.len, fun w w0 w1 => (hd.bd w w0 w1).1, fun v w ha => hd.ge w (gr_all hq hl ha.2.2.1 ha.2.2.2.1) v ha, fun w w0 w1 => hd.at_ w (gr_all hq hl w0 w1)⟩, fun u u0 u1 => ?_⟩
    have := (hd.bd u u0 u1).2
    omega
  · right
    refine ⟨hl, ?_⟩
    rw [if_neg hl]
    simp
theorem rl_use {g : List (List Int)} {y : List Int × Bool} (hn : g.length ≤ 900) (h : ref06_Levels g = y) : y.2 = true → y.1.length = g.length ∧ WB y.1 100000 := fun e => by
  subst h
  obtain ⟨q, _, _, h⟩ := rl_spec g hn
  rcases h with ⟨_, d, e2, hd, hb⟩ | ⟨_, e2⟩
  · rw [e2]
    refine ⟨hd.len, fun k k0 k1 => ?_⟩
    have hk : k < (g.length : Int) := by have := hd.len; simp only at k1; clear hb; omega
    have h1 := hd.nn k k0 hk
    have h2 := hb k k0 hk
    simp only
    omega
  · rw [e2] at e; cases e
theorem rdesc_L2 (g : List (List Int)) (r : List Int) (v k : Int) (K : Int → List Int) : ∀ (m : Nat) (i : Int), ∃ w, ref06_descend_L2 g r v k K m i = K w
  | 0, i => ⟨i, by rw [ref06_descend_L2]⟩
  | m + 1, i => by
    rw [ref06_descend_L2]
    split
    · exact rdesc_L2 g r v k K m (i + 1)
    · exact ⟨i, rfl⟩
theorem rdesc_L1 (g : List (List Int)) (r : List Int) : ∀ (m : Nat) (v k : Int) (z : List Int), (ref06_descend_L1 g r (fun z => z) m v k z).length ≤ z.length + m
  | 0, v, k, z => by rw [ref06_descend_L1]; simp
  | m + 1, v, k, z => by
    rw [ref06_descend_L1]
    split
    · obtain ⟨w, h⟩ := rdesc_L2 g r v k (fun w => ref06_descend_L1 g r (fun z => z) m w (wr (k - 1)) (z ++ [w])) (Int.toNat ((wr ((g.length : Int) - 1)) - 0)) 0
      rw [h]
      have := rdesc_L1 g r m w (wr (k - 1)) (z ++ [w])
      rw [List.length_append, List.length_singleton] at this
      omega
    · omega
theorem rdesc_len {g : List (List Int)} {r y : List Int} {v b : Int} (hb : WB r b) (h0 : 0 ≤ v) (h1 : v < r.length) (h2 : b ≤ 100000) (h : ref06_descend g r v = y) : y.length ≤ 100001 := by
  subst h
  have := rdesc_L1 g r (Int.toNat (ix r v)) v (ix r v) [v]
  have := hb v h0 h1
  unfold ref06_descend
  simp only [List.length_singleton] at *
  omega
theorem rev_sm {g y : List (List Int)} (hs : Sm g) (h : digraph_Reverse g = y) : Sm y := (rev_gd hs h).sm hs.n
/-- A graph whose rows are in order. -/
theorem clean_id {g : List (List Int)} (h : (g.all fun r => decide (r.Pairwise fun a b => a < b) && r.all fun w => decide (0 ≤ w) && decide (w < (g.length : Int))) = true) : digraph_clean g = g := by
  simp only [List.all_eq_true, Bool.and_eq_true, decide_eq_true_eq] at h
  refine (clean_cl g).uniq (A := Ed g) (B := Ed g) ⟨rfl, fun v v0 v1 => (h _ (ix_mem v0 v1)).1, fun v w v0 v1 => ⟨fun hm => ?_, fun q => q.2.2.2.2⟩, fun v w q => ⟨q.1, q.2.1, q.2.2.1, q.2.2.2.1⟩⟩ fun _ _ => Iff.rfl
  have := (h _ (ix_mem v0 v1)).2 w hm
  exact ⟨v0, v1, this.1, this.2, hm⟩
def G1 : List (List Int) := [([1, 2] : List Int), ([3] : List Int), ([3] : List Int), ([] : List Int)]
def G2 : List (List Int) := [([1] : List Int), ([2] : List Int), ([1] : List Int)]
theorem c1 : digraph_clean G1 = G1 := clean_id (by decide)
theorem c2 : digraph_clean G2 = G2 := clean_id (by decide)
theorem r1 : digraph_Reverse G1 = [([] : List Int), ([0] : List Int), ([0] : List Int), ([1, 2] : List Int)] := by
  unfold digraph_Reverse; simp only [LET]; rw [c1]; kernel_rfl
theorem r2 : digraph_Reverse G2 = [([] : List Int), ([0, 2] : List Int), ([1] : List Int)] := by
  unfold digraph_Reverse; simp only [LET]; rw [c2]; kernel_rfl
theorem t1 : digraph_ShortestPath G1 0 3 = ([0, 1, 3], true) := by
  unfold digraph_ShortestPath; simp only [LET]; rw [r1, c1]; kernel_rfl
theorem t2 : digraph_TopologicalOrder G1 = ([0, 1, 2, 3], true) := by
  unfold digraph_TopologicalOrder; simp only [LET]; rw [c1]; kernel_rfl
theorem t3 : digraph_Levels G1 = ([0, 1, 1, 2], true) := by
  unfold digraph_Levels; simp only [LET]; rw [r1]; kernel_rfl
theorem t4 : digraph_LongestPath G1 = ([0, 1, 3], true) := by
  unfold digraph_LongestPath; simp only [LET]; rw [c1]; kernel_rfl
theorem t5 : digraph_ShortestCycle G2 = [1, 2] := by
  unfold digraph_ShortestCycle; simp only [LET]; rw [c2, r2]; kernel_rfl
theorem t6 : digraph_Reachable G1 1 = [false, true, false, true] := by kernel_rfl
theorem works_t : law06_works = true := by
  have e : law06_works = (LET (digraph_ShortestPath G1 0 3) fun y106 =>
  LET (digraph_TopologicalOrder G1) fun y108 =>
  LET (digraph_Levels G1) fun y110 =>
  LET (digraph_LongestPath G1) fun y112 =>
  LET (digraph_ShortestCycle G2) fun y118 =>
  LET (digraph_Reachable G1 1) fun y120 =>
  LET (ref06_EqualInts y106.1 ([0, 1, 3] : List Int)) fun y123 =>
  (((((((((((y123 && y106.2) && (ref06_EqualInts y108.1 ([0, 1, 2, 3] : List Int))) && y108.2) && (ref06_EqualInts y110.1 ([0, 1, 1, 2] : List Int))) && y110.2) && (ref06_EqualInts y112.1 ([0, 1, 3] : List Int))) && y112.2) && (ref06_EqualInts y118 ([1, 2] : List Int))) && (ref06_EqualBools y120 ([false, true, false, true] : List Bool))) && (ref06_EqualGraphs (digraph_Reverse G1) ([([] : List Int), ([0] : List Int), ([0] : List Int), ([1, 2] : List Int)] : List (List Int)))) && (decide ((digraph_Check ([([5] : List Int)] : List (List Int))) = 9)))) := rfl
  rw [e, t1, t2, t3, t4, t5, t6, r1]
  have h : ∀ b : Bool, b = true → b = true := fun _ h => h
  refine h _ ?_
  kernel_rfl
theorem eqI {a b : List Int} (h : a = b) : ref06_EqualInts a b = true := by
  subst h
  unfold ref06_EqualInts
  rw [if_neg (by simp)]
  have : ∀ (m : Nat) (i : Int), ref06_EqualInts_L1 a a (fun _ => true) m i = true := by
    intro m
    induction m with
    | zero => intro i; rw [ref06_EqualInts_L1]
    | succ m ih => intro i; rw [ref06_EqualInts_L1, if_neg (by simp)]; exact ih _
  exact this _ _
theorem eqB {a b : List Bool} (h : a = b) : ref06_EqualBools a b = true := by
  subst h
  unfold ref06_EqualBools
  rw [if_neg (by simp)]
  have : ∀ (m : Nat) (i : Int), ref06_EqualBools_L1 a a (fun _ => true) m i = true := by
    intro m
    induction m with
    | zero => intro i; rw [ref06_EqualBools_L1]
    | succ m ih => intro i; rw [ref06_EqualBools_L1, if_neg (by simp)]; exact ih _
  exact this _ _
theorem eqG {a b : List (List Int)} (h : a = b) : ref06_EqualGraphs a b = true := by
  subst h
  unfold ref06_EqualGraphs
  rw [if_neg (by simp)]
  have : ∀ (m : Nat) (i : Int), ref06_EqualGraphs_L1 a a (fun _ => true) m i = true := by
    intro m
    induction m with
    | zero => intro i; rw [ref06_EqualGraphs_L1]
    | succ m ih =>
      intro i
      rw [ref06_EqualGraphs_L1]
      simp only [LET, eqI rfl, Bool.not_true, Bool.false_eq_true, if_false]
      exact ih _
  exact this _ _
/-- Distances in a graph and in the one that is turned round. -/
theorem dist_rev (g : List (List Int)) (s : Int) (hn : g.length ≤ 1000) : digraph_distances (digraph_Reverse g) s = ref06_distances g s := by
  have h := rev_cl g
  have hd := dist_ds (digraph_Reverse g) s (by rw [h.len]; exact hn)
  rw [h.len] at hd
  exact hd.uniq (rdist_ds g s hn) fun u v => h.edge u v
theorem dist_rev' (g : List (List Int)) (s : Int) (hn : g.length ≤ 1000) : digraph_distances g s = ref06_distances (ref06_Reverse g) s := by
  have h := rrev_cl g
  have hd := rdist_ds (ref06_Reverse g) s (by rw [h.len]; exact hn)
  rw [h.len] at hd
  exact (dist_ds g s hn).uniq hd fun u v => (h.edge v u).symm
theorem reach_eq (g : List (List Int)) (s : Int) (hn : g.length ≤ 1000) : digraph_Reachable g s = (digraph_distances g s).map fun d => decide (0 ≤ d) := by
  have hl := (dist_ds g s hn).len
  unfold digraph_Reachable
  simp only [LET]
  generalize digraph_distances g s = d at hl
  have key : ∀ (m : Nat) (i : Int) (z : List Bool), m = Int.toNat ((d.length : Int) - i) → 0 ≤ i → z.length = d.length → (∀ k : Int, 0 ≤ k → k < i → k < d.length → ix z k = decide (0 ≤ ix d k)) → digraph_Reachable_L1 d (fun z => z) m i z = d.map fun d => decide (0 ≤ d) := by
    intro m
    induction m with
    | zero =>
      intro i z hm h0 hz hs
      rw [digraph_Reachable_L1]
      refine ext_ix (by rw [hz, List.length_map]) fun k k0 k1 => ?_
      rw [hs k k0 (by omega) (by omega), ix_lt (l := d.map _) k0 (by rw [List.length_map]; omega), List.getElem_map, ix_lt k0 (by omega)]
    | succ m ih =>
      intro i z hm h0 hz hs
      rw [digraph_Reachable_L1]
      refine ih (i + 1) _ (by omega) (by omega) (by rw [List.length_set]; exact hz) fun k k0 k1 k2 => ?_
      rw [ix_set k0 (by omega) h0]
      split
      · rename_i e; rw [e]
      · exact hs k k0 (by omega) k2
  exact key _ 0 _ rfl (Int.le_refl _) (by rw [List.length_replicate, hl]) fun k k0 k1 _ => by omega
theorem rreach_eq (g : List (List Int)) (s : Int) (hn : g.length ≤ 1000) : ref06_Reachable g s = (ref06_distances (ref06_Reverse g) s).map fun d => decide (0 ≤ d) := by
  have hr := rrev_cl g
  have hl := (rdist_ds (ref06_Reverse g) s (by rw [hr.len]; exact hn)).len
  rw [hr.len] at hl
  unfold ref06_Reachable
  simp only [LET]
  generalize ref06_distances (ref06_Reverse g) s = d at hl
  have key : ∀ (m : Nat) (i : Int) (z : List Bool), m = Int.toNat ((g.length : Int) - i) → 0 ≤ i → z.length = d.length → (∀ k : Int, 0 ≤ k → k < i → k < d.length → ix z k = decide (0 ≤ ix d k)) → ref06_Reachable_L1 d (fun z => z) m i z = d.map fun d => decide (0 ≤ d) := by
    intro m
    induction m with
    | zero =>
      intro i z hm h0 hz hs
      rw [ref06_Reachable_L1]
      refine ext_ix (by rw [hz, List.length_map]) fun k k0 k1 => ?_
      rw [hs k k0 (by omega) (by omega), ix_lt (l := d.map _) k0 (by rw [List.length_map]; omega), List.getElem_map, ix_lt k0 (by omega)]
    | succ m ih =>
      intro i z hm h0 hz hs
      rw [ref06_Reachable_L1]
      refine ih (i + 1) _ (by omega) (by omega) (by rw [List.length_set]; exact hz) fun k k0 k1 k2 => ?_
      rw [ix_set k0 (by omega) h0]
      split
      · rename_i e; rw [e]
      · exact hs k k0 (by omega) k2
  exact key _ 0 _ rfl (Int.le_refl _) (by rw [List.length_replicate, hl]) fun k k0 k1 _ => by omega
theorem DigraphReachable_law (g : List (List Int)) (s : Int) : law06_DigraphReachable g s = true := by
  unfold law06_DigraphReachable
  simp only [LET, works_t]
  by_cases hL : law06_large g = true
  · rw [if_pos hL]
  · rw [if_neg hL]
    have hn := (large_sm rfl (by simpa using hL)).n
    rw [eqB (by rw [reach_eq g s (by omega), rreach_eq g s (by omega), dist_rev' g s (by omega)])]
    rfl
/-- The smallest successor whose rank is one less. -/
structure Nx (A : Int → Int → Prop) (r : List Int) (v w : Int) : Prop where
  e : A v w
  rk : ix r w = ix r v - 1
  min : ∀ u, A v u → ix r u = ix r v - 1 → w ≤ u
/-- A path down. -/
inductive Dp (A : Int → Int → Prop) (r : List Int) : Int → List Int → Prop
  | stop {v : Int} (h : ix r v ≤ 0) : Dp A r v [v]
  | go {v w : Int} {l : List Int} (h : 0 < ix r v) (hw : Nx A r v w) (hl : Dp A r w l) : Dp A r v (v :: l)
/-- Ranks: there is always a successor whose rank is one less. -/
def Rk (n : Nat) (A : Int → Int → Prop) (r : List Int) : Prop := ∀ v : Int, 0 ≤ v → v < n → 0 < ix r v → ∃ w, A v w ∧ ix r w = ix r v - 1
section
variable {n : Nat} {A : Int → Int → Prop} {r : List Int}
theorem Nx.uniq {v w u : Int} (h : Nx A r v w) (k : Nx A r v u) : w = u := Int.le_antisymm (h.min u k.e k.rk) (k.min w h.e h.rk)
theorem Dp.uniq {v : Int} {l : List Int} (h : Dp A r v l) : ∀ {k : List Int}, Dp A r v k → l = k := by
  induction h with
  | stop h =>
    intro k hk
    cases hk with
    | stop => rfl
    | go h2 => omega
  | go h hw hl ih =>
    intro k hk
    cases hk with
    | stop h2 => omega
    | go h2 hw2 hl2 =>
      have e := hw.uniq hw2
      subst e
      rw [ih hl2]
theorem least {p : Int → Prop} : ∀ (m : Nat) (a : Int), (∃ w, a ≤ w ∧ w < a + m ∧ p w) → ∃ w, a ≤ w ∧ w < a + m ∧ p w ∧ ∀ u, a ≤ u → u < w → ¬ p u
  | 0, a, ⟨w, h0, h1, _⟩ => by omega
  | m + 1, a, ⟨w, h0, h1, hp⟩ => by
    by_cases ha : p a
    · exact ⟨a, Int.le_refl _, by omega, ha, fun u u0 u1 => by omega⟩
    · have hne : w ≠ a := fun e => ha (e ▸ hp)
      have b0 : a + 1 ≤ w := by omega
      have b1 : w < a + 1 + m := by omega
      obtain ⟨x, x0, x1, hx, hm⟩ := least m (a + 1) ⟨w, b0, b1, hp⟩
      have c0 : a ≤ x := by omega
      have c1 : x < a + (m + 1 : Nat) := by omega
      refine ⟨x, c0, c1, hx, fun u u0 u1 => ?_⟩
      by_cases e : u = a
      · rw [e]; exact ha
      · have : a + 1 ≤ u := by omega
        exact hm u this u1
theorem Rk.nx (hA : ∀ v w, A v w → 0 ≤ w ∧ w < (n : Int)) (h : Rk n A r) {v : Int} (v0 : 0 ≤ v) (v1 : v < n) (hv : 0 < ix r v) : ∃ w, Nx A r v w := by
  obtain ⟨w, a, e⟩ := h v v0 v1 hv
  obtain ⟨w0, w1⟩ := hA v w a
  have w2 : w < 0 + (n : Int) := by omega
  obtain ⟨x, x0, x1, ⟨hx, hr⟩, hm⟩ := least (p := fun w => A v w ∧ ix r w = ix r v - 1) n 0 ⟨w, w0, w2, a, e⟩
  refine ⟨x, hx, hr, fun u hu hr' => ?_⟩
  have hu0 := (hA v u hu).1
  rcases Int.lt_or_le u x with q | q
  · exact absurd ⟨hu, hr'⟩ (hm u hu0 q)
  · exact q
/-! The program's -/
theorem dd_L2 {c : List (List Int)} (h : Cl n c A) (hb : WB r 100000) (hr : r.length = n) {v w : Int} (v0 : 0 ≤ v) (v1 : v < n) (hw : Nx A r v w) (K1 : Int → List Int → List Int) (K2 : List Int → List Int) :
    ∀ (m : Nat) (i : Int) (z : List Int), m = Int.toNat (((ix c v).length : Int) - i) → 0 ≤ i → w ∈ (ix c v).drop i.toNat → digraph_descend_L2 c r v K1 K2 m v i z = K1 w (z ++ [w])
  | 0, i, z, hm, h0, hi => by rw [List.drop_eq_nil_of_le (by omega)] at hi; cases hi
  | m + 1, i, z, hm, h0, hi => by
    have hil : i < (ix c v).length := by omega
    rw [drop_ix h0 hil] at hi
    rw [digraph_descend_L2, (hb.at_dec (by omega) v0 (by omega)).1]
    by_cases hc : ix r (ix (ix c v) i) = ix r v - 1
    · rw [if_pos (by simpa using hc)]
      have ha := (h.mem v _ v0 v1).1 (ix_mem h0 hil)
      have hle := hw.min _ ha hc
      have : ix (ix c v) i = w := by
        rcases List.mem_cons.1 hi with q | q
        · exact q.symm
        · have hasc := h.asc v v0 v1
          obtain ⟨j, hj, e⟩ := List.getElem_of_mem q
          rw [List.length_drop] at hj
          rw [List.getElem_drop] at e
          have := List.pairwise_iff_getElem.1 hasc i.toNat ((i + 1).toNat + j) (by omega) (by omega) (by omega)
          rw [ix_lt h0 hil] at hle ⊢
          omega
      rw [this]
    · rw [if_neg (by simpa using hc)]
      refine dd_L2 h hb hr v0 v1 hw K1 K2 m (i + 1) z (by omega) (by omega) ?_
      rcases List.mem_cons.1 hi with q | q
      · rw [← q] at hc; exact absurd hw.rk hc
      · exact q
theorem dd_L1 {c : List (List Int)} (h : Cl n c A) (hb : WB r 100000) (hr : r.length = n) (hk : Rk n A r) : ∀ (m : Nat) (v : Int) (z : List Int), ix r v ≤ m → 0 ≤ v → v < n →
    ∃ l, digraph_descend_L1 c r (fun z => z) m v (z ++ [v]) = z ++ l ∧ Dp A r v l
  | 0, v, z, hm, v0, v1 => ⟨[v], by rw [digraph_descend_L1], .stop (by simpa using hm)⟩
  | m + 1, v, z, hm, v0, v1 => by
    rw [digraph_descend_L1]
    by_cases hc : 0 < ix r v
    · rw [if_pos (by simpa using hc)]
      obtain ⟨w, hw⟩ := hk.nx (fun v w a => (h.rg v w a).2.2) v0 v1 hc
      rw [dd_L2 h hb hr v0 v1 hw _ _ _ 0 _ rfl (Int.le_refl _) (by simpa using (h.mem v w v0 v1).2 hw.e)]
      obtain ⟨_, _, w0, w1⟩ := h.rg v w hw.e
      obtain ⟨l, e, hl⟩ := dd_L1 h hb hr hk m w (z ++ [v]) (by have := hw.rk; omega) w0 w1
      exact ⟨v :: l, by rw [e]; simp, .go hc hw hl⟩
    · rw [if_neg (by simpa using hc)]
      exact ⟨[v], rfl, .stop (by omega)⟩
theorem dd_dp {c : List (List Int)} (h : Cl n c A) (hb : WB r 100000) (hr : r.length = n) (hk : Rk n A r) {v : Int} (v0 : 0 ≤ v) (v1 : v < n) : Dp A r v (digraph_descend c r v) := by
  unfold digraph_descend
  obtain ⟨l, e, hl⟩ := dd_L1 h hb hr hk (Int.toNat (ix r v)) v [] (by omega) v0 v1
  rw [List.nil_append] at e
  rw [e]
  simpa using hl
end
/-! The reference's -/
section
variable {g : List (List Int)} {r : List Int}
theorem rdd_L2 (hn : g.length ≤ 1000) (hb : WB r 100000) (hr : r.length = g.length) {v w : Int} (v0 : 0 ≤ v) (v1 : v < g.length) (hw : Nx (Ed g) r v w) (K : Int → List Int) :
    ∀ (m : Nat) (i : Int), m = Int.toNat ((g.length : Int) - 1 - i) → 0 ≤ i → i ≤ w → ref06_descend_L2 g r v (ix r v) K m i = K w
  | 0, i, hm, h0, hi => by
    have := hw.e.2.2.2.1
    have e : i = w := by omega
    rw [ref06_descend_L2, e]
  | m + 1, i, hm, h0, hi => by
    have hwl := hw.e.2.2.2.1
    rw [ref06_descend_L2, wr_of (n := (g.length : Int) - 1) (by omega) (by omega), (hb.at_dec (by omega) v0 (by omega)).1]
    by_cases hc : ix r i = ix r v - 1 ∧ Ed g v i
    · rw [if_neg (by simp only [Bool.and_eq_true, decide_eq_true_eq, Bool.not_eq_true', Bool.and_eq_false_imp]; rintro ⟨_, q⟩; rw [(edge_eq g v i).2 hc.2] at q; exact absurd (q hc.1) (by decide))]
      have := hw.min i hc.2 hc.1
      have e : i = w := by omega
      rw [e]
    · have hne : i ≠ w := fun e => hc (by rw [e]; exact ⟨hw.rk, hw.e⟩)
      have b1 : m = Int.toNat ((g.length : Int) - 1 - (i + 1)) := by clear hc; omega
      have b2 : i + 1 ≤ w := by clear hc; omega
      have b3 : i < (g.length : Int) - 1 := by clear hc; omega
      have b4 : 0 ≤ i + 1 := by clear hc; omega
      rw [if_pos (by
        simp only [Bool.and_eq_true, decide_eq_true_eq, Bool.not_eq_true', Bool.and_eq_false_imp]
        exact ⟨b3, fun q => (edge_false g v i).2 fun s => hc ⟨q, s⟩⟩)]
      exact rdd_L2 hn hb hr v0 v1 hw K m (i + 1) b1 b4 b2
theorem rdd_L1 (hn : g.length ≤ 1000) (hb : WB r 100000) (hr : r.length = g.length) (hk : Rk g.length (Ed g) r) : ∀ (m : Nat) (v : Int) (z : List Int), ix r v ≤ m → 0 ≤ v → v < g.length →
    ∃ l, ref06_descend_L1 g r (fun z => z) m v (ix r v) (z ++ [v]) = z ++ l ∧ Dp (Ed g) r v l
  | 0, v, z, hm, v0, v1 => ⟨[v], by rw [ref06_descend_L1], .stop (by simpa using hm)⟩
  | m + 1, v, z, hm, v0, v1 => by
    rw [ref06_descend_L1]
    by_cases hc : 0 < ix r v
    · rw [if_pos (by simpa using hc)]
      obtain ⟨w, hw⟩ := hk.nx (fun v w a => ⟨a.2.2.1, a.2.2.2.1⟩) v0 v1 hc
      rw [wr_of (n := (g.length : Int) - 1) (by omega) (by omega)]
      rw [rdd_L2 hn hb hr v0 v1 hw _ _ 0 (by omega) (Int.le_refl _) hw.e.2.2.1]
      rw [(hb.at_dec (by omega) v0 (by omega)).1, ← hw.rk]
      obtain ⟨l, e, hl⟩ := rdd_L1 hn hb hr hk m w (z ++ [v]) (by have := hw.rk; omega) hw.e.2.2.1 hw.e.2.2.2.1
      exact ⟨v :: l, by rw [e]; simp, .go hc hw hl⟩
    · rw [if_neg (by simpa using hc)]
      exact ⟨[v], rfl, .stop (by omega)⟩
theorem rdd_dp (hn : g.length ≤ 1000) (hb : WB r 100000) (hr : r.length = g.length) (hk : Rk g.length (Ed g) r) {v : Int} (v0 : 0 ≤ v) (v1 : v < g.length) : Dp (Ed g) r v (ref06_descend g r v) := by
  unfold ref06_descend
  obtain ⟨l, e, hl⟩ := rdd_L1 hn hb hr hk (Int.toNat (ix r v)) v [] (by omega) v0 v1
  rw [List.nil_append] at e
  rw [e]
  simpa using hl
end
/-- Distances are ranks. -/
theorem ds_rk {n : Nat} {A : Int → Int → Prop} {s : Int} {d : List Int} (hA : ∀ u v, A u v → 0 ≤ u ∧ u < (n : Int)) (h : Ds n A s d) : Rk n (fun v u => A u v) d := fun v v0 v1 hv => by
  rcases h.at_ v v0 v1 with ⟨a, _⟩ | ⟨k, a, b, _⟩
  · omega
  · cases k with
    | zero => omega
    | succ k =>
      obtain ⟨u, hu, ha⟩ := b.pred
      refine ⟨u, ha, ?_⟩
      obtain ⟨u0, u1⟩ := hA u v ha
      rcases h.at_ u u0 u1 with ⟨_, c⟩ | ⟨j, c, d, _⟩
      · exact absurd hu.1 (c k)
      · have := d.uniq hu
        omega
theorem short_eq (g : List (List Int)) (u v : Int) (hn : g.length ≤ 24) : digraph_ShortestPath g u v = ref06_ShortestPath g u v := by
  unfold digraph_ShortestPath ref06_ShortestPath
  simp only [LET]
  rw [dist_rev g v (by omega)]
  have hd := rdist_ds g v (by omega)
  generalize ref06_distances g v = d at hd
  by_cases hu : 0 ≤ u ∧ u < g.length
  · have e1 : digraph_node g u = true := by unfold digraph_node; simp [hu.1, hu.2]
    have e2 : ((decide (u < 0)) || (decide ((g.length : Int) ≤ u))) = false := by simp; omega
    rw [e1, e2]
    simp only [Bool.not_true, Bool.false_or]
    by_cases hv : 0 ≤ v ∧ v < g.length
    · have e3 : digraph_node g v = true := by unfold digraph_node; simp [hv.1, hv.2]
      rw [e3]
      simp only [Bool.not_true, Bool.false_eq_true, if_false]
      by_cases hc : ix d u < 0
      · rw [if_pos (by simpa using hc), if_pos (by simpa using hc)]
      · rw [if_neg (by simpa using hc), if_neg (by simpa using hc)]
        have hk := ds_rk (fun u v a => ⟨a.2.2.1, a.2.2.2.1⟩) hd
        have hw := (hd.wb (by omega)).mono (c := 100000) (by omega)
        rw [(dd_dp (clean_cl g) hw hd.len hk hu.1 hu.2).uniq (rdd_dp (by omega) hw hd.len hk hu.1 hu.2)]
    · have e3 : digraph_node g v = false := by
        unfold digraph_node
        simp only [Bool.and_eq_false_imp, decide_eq_true_eq, decide_eq_false_iff_not]
        omega
      rw [e3]
      simp only [Bool.not_false, if_true]
      rw [if_pos]
      rcases hd.at_ u hu.1 hu.2 with ⟨a, _⟩ | ⟨k, _, b, _⟩
      · simp; omega
      · exfalso
        refine no_wk (A := fun u v => Ed g v u) (s := v) (fun a b q e => hv ?_) k u (fun e => hv (e ▸ hu)) b.1
        subst e; exact ⟨q.2.2.1, q.2.2.2.1⟩
  · have e1 : digraph_node g u = false := by
      unfold digraph_node
      simp only [Bool.and_eq_false_imp, decide_eq_true_eq, decide_eq_false_iff_not]
      omega
    have e2 : ((decide (u < 0)) || (decide ((g.length : Int) ≤ u))) = true := by simp; omega
    rw [e1, e2]
    simp
theorem DigraphPaths_law (g : List (List Int)) (u v : Int) : law06_DigraphPaths g u v = true := by
  unfold law06_DigraphPaths
  simp only [LET, works_t]
  by_cases hL : law06_large g = true
  · rw [if_pos hL]
  · rw [if_neg hL]
    have hn := (large_sm rfl (by simpa using hL)).n
    rw [short_eq g u v hn, eqI rfl]
    simp
theorem wk_cons {A : Int → Int → Prop} {v u : Int} (h : A v u) : ∀ (k : Nat) (s : Int), Wk A u k s → Wk A v (k + 1) s
  | 0, s, hw => ⟨v, rfl, by rw [show s = u from hw]; exact h⟩
  | k + 1, s, ⟨x, hx, ha⟩ => ⟨x, wk_cons h k x hx, ha⟩
theorem wk_rev {A : Int → Int → Prop} {s : Int} : ∀ (k : Nat) (v : Int), Wk A s k v → Wk (fun u w => A w u) v k s
  | 0, v, h => (show v = s from h).symm
  | k + 1, v, ⟨u, hu, ha⟩ => wk_cons (A := fun u w => A w u) ha k s (wk_rev k u hu)
theorem ds_pos {n : Nat} {A : Int → Int → Prop} {s v : Int} {d : List Int} (h : Ds n A s d) (v0 : 0 ≤ v) (v1 : v < n) : 0 ≤ ix d v ↔ ∃ k, Wk A s k v := by
  rcases h.at_ v v0 v1 with ⟨a, b⟩ | ⟨k, a, b, _⟩
  · exact ⟨fun q => by omega, fun ⟨k, hk⟩ => absurd hk (b k)⟩
  · exact ⟨fun _ => ⟨k, b.1⟩, fun _ => by omega⟩
theorem ix_map {f : Int → Bool} {d : List Int} {k : Int} (k0 : 0 ≤ k) (k1 : k < d.length) : ix (d.map f) k = f (ix d k) := by
  rw [ix_lt (l := d.map f) k0 (by rw [List.length_map]; exact k1), List.getElem_map, ix_lt k0 k1]
theorem rv_L2 (g t : List (List Int)) (h : ∀ v w, ref06_Edge g v w = ref06_Edge t v w) (v : Int) (K : Unit → Bool) : ∀ (m : Nat) (i : Int), law06_DigraphReverses_L2 g t v K m i = K ()
  | 0, i => by rw [law06_DigraphReverses_L2]
  | m + 1, i => by
    rw [law06_DigraphReverses_L2]
    simp only [LET, h, decide_true, Bool.not_true, Bool.false_eq_true, if_false]
    exact rv_L2 g t h v K m (i + 1)
theorem rv_L1 (g t : List (List Int)) (h : ∀ v w, ref06_Edge g v w = ref06_Edge t v w) (K : Unit → Bool) : ∀ (m : Nat) (i : Int), law06_DigraphReverses_L1 g t K m i = K ()
  | 0, i => by rw [law06_DigraphReverses_L1]
  | m + 1, i => by
    rw [law06_DigraphReverses_L1, rv_L2 g t h]
    exact rv_L1 g t h K m (i + 1)
theorem DigraphReverses_law (g : List (List Int)) (u v : Int) : law06_DigraphReverses g u v = true := by
  unfold law06_DigraphReverses
  simp only [LET, works_t]
  by_cases hL : law06_large g = true
  · rw [if_pos hL]
  · rw [if_neg hL]
    have hn := (large_sm rfl (by simpa using hL)).n
    have hr := rev_cl g
    have hrl := hr.len
    have hr2 := rev_cl (digraph_Reverse g)
    have hr2l := hr2.len
    have hd := dist_ds g u (by omega)
    have hd2 := rdist_ds g v (by omega)
    rw [reach_eq g u (by omega), reach_eq (digraph_Reverse g) v (by omega), dist_rev g v (by omega)]
    have hedge : ∀ a b, ref06_Edge g a b = ref06_Edge (digraph_Reverse (digraph_Reverse g)) a b := fun a b => by
      rw [Bool.eq_iff_iff, edge_eq, edge_eq]
      rw [hr2.edge a b, hr.edge b a]
    rw [if_neg (by simp only [List.length_map, hd.len, hd2.len, hr2l, hrl]; simp)]
    rw [rv_L1 g _ hedge]
    by_cases hin : (0 ≤ u ∧ u < g.length) ∧ 0 ≤ v ∧ v < g.length
    · have hiff : 0 ≤ ix (digraph_distances g u) v ↔ 0 ≤ ix (ref06_distances g v) u := by
        rw [ds_pos hd hin.2.1 hin.2.2, ds_pos hd2 hin.1.1 hin.1.2]
        exact ⟨fun ⟨k, hk⟩ => ⟨k, wk_rev k v hk⟩, fun ⟨k, hk⟩ => ⟨k, wk_rev (A := fun u v => Ed g v u) k u hk⟩⟩
      have hok : (digraph_ShortestPath g u v).2 = decide (0 ≤ ix (ref06_distances g v) u) := by
        rw [short_eq g u v hn]
        unfold ref06_ShortestPath
        simp only [LET]
        by_cases hc : ix (ref06_distances g v) u < 0
        · rw [if_pos (by simp [hc])]
          simp; omega
        · rw [if_neg (by simp; omega)]
          simp; omega
      rw [hok, ix_map hin.2.1 (by rw [hd.len]; exact hin.2.2), ix_map hin.1.1 (by rw [hd2.len]; exact hin.1.2)]
      rw [if_neg]
      simp [hiff]
    · rw [if_neg]
      simp only [Bool.and_eq_true, decide_eq_true_eq]
      rintro ⟨⟨⟨⟨a, b⟩, c⟩, d⟩, _⟩
      exact hin ⟨⟨a, b⟩, c, d⟩
end Go.Proofs.Ytpdimhpjehfjeaa
