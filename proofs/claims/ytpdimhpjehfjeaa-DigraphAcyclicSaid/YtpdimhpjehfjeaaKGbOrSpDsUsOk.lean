/-
  Hand-written texts in one.
-/
import Derived.Test.YtpdimhpjehfjeaaKDef
import Derived.Test.YtpdimhpjehfjeaaPbP
import Derived.Test.YtpdimhpjehfjeaaPbV
set_option linter.unusedVariables false
set_option linter.unusedSimpArgs false
set_option maxRecDepth 100000
namespace Go.Proofs.Ytpdimhpjehfjeaa
open Go Go.Pb Go.RowKit
/-- No list is longer than b. -/
def LB (z : List (List Int)) (b : Int) : Prop := ∀ k : Int, 0 ≤ k → k < z.length → ((ix z k).length : Int) ≤ b
theorem lb_rep {n : Nat} {b : Int} (h : 0 ≤ b) : LB (List.replicate n ([] : List Int)) b := fun k h0 h1 => by
  rw [ix_lt h0 h1]; simpa using h
theorem LB.mono {z : List (List Int)} {b c : Int} (h : LB z b) (hc : b ≤ c) : LB z c := fun k h0 h1 => by have := h k h0 h1; omega
theorem ix_set {α : Type} [Inhabited α] {l : List α} {i k : Int} {a : α} (h0 : 0 ≤ k) (h1 : k < l.length) (hi : 0 ≤ i) : ix (l.set i.toNat a) k = if k = i then a else ix l k := by
  rw [ix_lt h0 (by rw [List.length_set]; exact h1), ix_lt h0 h1, List.getElem_set]
  by_cases e : k = i
  · subst e; simp
  · rw [if_neg (by omega), if_neg e]
theorem LB.set {z : List (List Int)} {b : Int} {i : Int} {l : List Int} (h : LB z b) (hi : 0 ≤ i) (hl : (l.length : Int) ≤ b) : LB (z.set i.toNat l) b := fun k h0 h1 => by
  rw [List.length_set] at h1
  rw [ix_set h0 h1 hi]
  split
  · exact hl
  · exact h k h0 h1
theorem LB.app {z : List (List Int)} {b : Int} {i : Int} {a : Int} (h : LB z b) (hi : 0 ≤ i) (h1 : i < z.length) : LB (z.set i.toNat (ix z i ++ [a])) (b + 1) :=
  (h.mono (by omega)).set hi (by have := h i hi h1; rw [List.length_append]; simp only [List.length_cons, List.length_nil]; omega)
/-- A small graph. -/
structure Sm (g : List (List Int)) : Prop where
  n : g.length ≤ 24
  r : LB g 40
/-- A small graph of n nodes whose edges lead to nodes. -/
structure Gd (n : Nat) (g : List (List Int)) : Prop where
  len : g.length = n
  r : LB g 40
  e : ∀ k : Int, 0 ≤ k → k < g.length → ∀ w ∈ ix g k, 0 ≤ w ∧ w < n
theorem Gd.at {n : Nat} {g : List (List Int)} (h : Gd n g) {k i : Int} (h0 : 0 ≤ k) (h1 : k < g.length) (h2 : 0 ≤ i) (h3 : i < (ix g k).length) : 0 ≤ ix (ix g k) i ∧ ix (ix g k) i < n := by
  refine h.e k h0 h1 _ ?_
  rw [ix_lt h2 h3]
  exact List.getElem_mem _
theorem drop_ix {α : Type} [Inhabited α] {c : List α} {i : Int} (h0 : 0 ≤ i) (h1 : i < c.length) : c.drop i.toNat = ix c i :: c.drop (i + 1).toNat := by
  rw [ix_lt h0 h1, show (i + 1).toNat = i.toNat + 1 by omega]
  exact List.drop_eq_getElem_cons (by omega)
theorem so_use {x y : List Int} (h : slices_Sort__int_int_ x = y) : y.length = x.length := by subst h; exact List.length_mergeSort _
theorem cpt_len {α : Type} [Inhabited α] [DecidableEq α] (l : List α) : (cpt l).length ≤ l.length := cpF_len l _
theorem co_use {x y : List Int} (h : slices_Compact__int_int_ x = y) : y.length ≤ x.length := by subst h; exact cpt_len _
/-- The nodes among some numbers. -/
def nodes (n : Nat) (l : List Int) : List Int := l.filter fun w => decide (0 ≤ w) && decide (w < n)
def cleanL (n : Nat) (l : List Int) : List Int := slices_Compact__int_int_ (slices_Sort__int_int_ (nodes n l))
theorem clean_L2 (g : List (List Int)) (v : Int) (K : List (List Int) → List (List Int)) (hv : 0 ≤ v) : ∀ (m : Nat) (i : Int) (z : List (List Int)), m = Int.toNat (((ix g v).length : Int) - i) → 0 ≤ i → v < z.length → digraph_clean_L2 g v K m i z = K (z.set v.toNat (ix z v ++ nodes g.length ((ix g v).drop i.toNat)))
  | 0, i, z, hm, h0, hz => by
    rw [digraph_clean_L2, List.drop_eq_nil_of_le (by omega)]
    congr 1
    unfold nodes
    simp only [List.filter_nil, List.append_nil]
    rw [ix_lt hv hz]
    simp
  | m + 1, i, z, hm, h0, hz => by
    rw [digraph_clean_L2, drop_ix h0 (by omega)]
    simp only [LET]
    by_cases hc' : digraph_node g (ix (ix g v) i) = true
    · rw [if_pos hc']
      have hc : (decide (0 ≤ ix (ix g v) i) && decide (ix (ix g v) i < (g.length : Int))) = true := hc'
      rw [clean_L2 g v K hv m (i + 1) _ (by omega) (by omega) (by rw [List.length_set]; exact hz), ix_set hv hz hv, if_pos rfl, List.set_set]
      congr 2
      unfold nodes
      rw [List.filter_cons, if_pos hc]
      simp
    · rw [if_neg hc']
      have hc : ¬(decide (0 ≤ ix (ix g v) i) && decide (ix (ix g v) i < (g.length : Int))) = true := hc'
      rw [clean_L2 g v K hv m (i + 1) _ (by omega) (by omega) hz]
      congr 2
      unfold nodes
      rw [List.filter_cons, if_neg hc]
theorem clean_L1 (g : List (List Int)) : ∀ (m : Nat) (i : Int) (z : List (List Int)), m = Int.toNat ((g.length : Int) - i) → 0 ≤ i → z.length = g.length → (∀ k : Int, i ≤ k → k < z.length → ix z k = []) → (∀ k : Int, 0 ≤ k → k < i → k < z.length → ix z k = cleanL g.length (ix g k)) →
    (digraph_clean_L1 g (fun z => z) m i z).length = g.length ∧ ∀ k : Int, 0 ≤ k → k < g.length → ix (digraph_clean_L1 g (fun z => z) m i z) k = cleanL g.length (ix g k)
  | 0, i, z, hm, h0, hz, h1, h2 => by
    rw [digraph_clean_L1]
    exact ⟨hz, fun k k0 k1 => h2 k k0 (by omega) (by omega)⟩
  | m + 1, i, z, hm, h0, hz, h1, h2 => by
    rw [digraph_clean_L1]
    have hiz : i < z.length := by omega
    rw [clean_L2 g i _ h0 _ 0 z rfl (by omega) hiz]
    simp only [LET]
    have e1 : ix (z.set i.toNat (ix z i ++ nodes g.length ((ix g i).drop (0 : Int).toNat))) i = nodes g.length (ix g i) := by
      rw [ix_set h0 hiz h0, if_pos rfl, h1 i (by omega) hiz]
      rfl
    simp only [List.set_set, List.length_set, ix_set h0 hiz h0, if_true, h1 i (Int.le_refl _) hiz, List.nil_append]
    refine clean_L1 g m (i + 1) _ (by omega) (by omega) (by rw [List.length_set]; exact hz) (fun k k0 k1 => ?_) (fun k k0 k1 k2 => ?_)
    · rw [List.length_set] at k1
      rw [ix_set (by omega) k1 h0, if_neg (by omega)]
      exact h1 k (by omega) k1
    · rw [List.length_set] at k2
      rw [ix_set k0 k2 h0]
      split
      · rename_i e; subst e; rfl
      · exact h2 k k0 (by omega) k2
theorem clean_at (g : List (List Int)) : (digraph_clean g).length = g.length ∧ ∀ k : Int, 0 ≤ k → k < g.length → ix (digraph_clean g) k = cleanL g.length (ix g k) := by
  unfold digraph_clean
  exact clean_L1 g _ 0 _ rfl (by omega) (by simp) (fun k k0 k1 => by rw [ix_lt k0 k1]; simp) (fun k k0 k1 _ => by omega)
theorem int_sto : STO (fun a b : Int => decide (a < b)) where
  irr x := by simp
  trans x y z h k := by simp at *; omega
  total x y h k := by simp at *; omega
theorem sortI_eq (l : List Int) : slices_Sort__int_int_ l = l.mergeSort fun x y => !(fun a b : Int => decide (a < b)) y x := by
  unfold slices_Sort__int_int_
  congr 1
  funext x y
  rw [Bool.eq_iff_iff]; simp
theorem cleanL_mem {n : Nat} {l : List Int} {w : Int} : w ∈ cleanL n l ↔ w ∈ l ∧ 0 ≤ w ∧ w < n := by
  unfold cleanL slices_Compact__int_int_
  rw [cpt_mem, sortI_eq, (List.mergeSort_perm _ _).mem_iff]
  unfold nodes
  rw [List.mem_filter]
  simp
theorem cleanL_pw (n : Nat) (l : List Int) : (cleanL n l).Pairwise (fun a b => a < b) := by
  unfold cleanL slices_Compact__int_int_
  rw [sortI_eq]
  exact (cpt_pw int_sto (sort_pw int_sto _)).imp fun h => by simpa using h
theorem cleanL_len (n : Nat) (l : List Int) : (cleanL n l).length ≤ l.length := by
  unfold cleanL slices_Compact__int_int_
  refine Nat.le_trans (cpt_len _) ?_
  rw [sortI_eq, List.length_mergeSort]
  exact List.length_filter_le _ _
theorem clean_gd {g y : List (List Int)} (hs : Sm g) (h : digraph_clean g = y) : Gd g.length y := by
  subst h
  obtain ⟨h1, h2⟩ := clean_at g
  refine ⟨h1, fun k k0 k1 => ?_, fun k k0 k1 w hw => ?_⟩
  · rw [h2 k k0 (by omega)]
    have := cleanL_len g.length (ix g k)
    have := hs.r k k0 (by omega)
    omega
  · rw [h2 k k0 (by omega), cleanL_mem] at hw
    exact hw.2
/-- All numbers lie between -b and b. -/
def WB (W : List Int) (b : Int) : Prop := ∀ k : Int, 0 ≤ k → k < W.length → -b ≤ ix W k ∧ ix W k ≤ b
theorem wb_rep {n : Nat} {b : Int} (h : 0 ≤ b) : WB (List.replicate n (0 : Int)) b := fun k h0 h1 => by
  rw [ix_lt h0 h1]; simp; omega
theorem WB.mono {W : List Int} {b c : Int} (h : WB W b) (hc : b ≤ c) : WB W c := fun k h0 h1 => by have := h k h0 h1; omega
theorem WB.set {W : List Int} {b i a : Int} (h : WB W b) (hi : 0 ≤ i) (h1 : -b ≤ a) (h2 : a ≤ b) : WB (W.set i.toNat a) b := fun k k0 k1 => by
  rw [List.length_set] at k1
  rw [ix_set k0 k1 hi]
  split
  · exact ⟨h1, h2⟩
  · exact h k k0 k1
theorem WB.inc {W : List Int} {b i : Int} (h : WB W b) (hb : b ≤ 1000000) (hi : 0 ≤ i) (h1 : i < W.length) : WB (W.set i.toNat (wr (ix W i + 1))) (b + 1) := by
  have := h i hi h1
  rw [wr_of (by omega) (by omega)]
  exact (h.mono (by omega)).set hi (by omega) (by omega)
theorem WB.dec {W : List Int} {b i : Int} (h : WB W b) (hb : b ≤ 1000000) (hi : 0 ≤ i) (h1 : i < W.length) : WB (W.set i.toNat (wr (ix W i - 1))) (b + 1) := by
  have := h i hi h1
  rw [wr_of (by omega) (by omega)]
  exact (h.mono (by omega)).set hi (by omega) (by omega)
/-- Different numbers below n are at most n many. -/
theorem nd_len : ∀ (n : Nat) (l : List Int), l.Nodup → (∀ v ∈ l, 0 ≤ v ∧ v < (n : Int)) → l.length ≤ n
  | 0, [], _, _ => Nat.le_refl _
  | 0, v :: l, _, h => by have := h v List.mem_cons_self; omega
  | n + 1, l, hd, h => by
    have h2 := nd_len n (l.erase (n : Int)) (hd.erase _) (fun v hv => by
      have hm := (List.Nodup.mem_erase_iff hd).1 hv
      have := h v hm.2
      have := hm.1
      omega)
    rw [List.length_erase] at h2
    split at h2 <;> omega
theorem mid_eq {s : Int} (h0 : 0 ≤ s) (h1 : s ≤ 2000000) : wr (((BitVec.ofInt 64 (wr s)) >>> (1#64).toNat).toNat : Int) = s / 2 := by
  rw [wr_of (n := s) (by omega) (by omega)]
  have e : ((BitVec.ofInt 64 s) >>> (1#64).toNat).toNat = s.toNat / 2 := by
    rw [BitVec.toNat_ushiftRight, BitVec.toNat_ofInt, Nat.shiftRight_eq_div_pow]
    have : (s % ((2 ^ 64 : Nat) : Int)).toNat = s.toNat := by
      rw [Int.emod_eq_of_lt h0 (by omega)]
    rw [this]
    rfl
  rw [e, wr_of (by omega) (by omega)]
  omega
theorem bmid {a b : Int} (h0 : 0 ≤ a) (h : a < b) (hb : b ≤ 1000000) : a ≤ wr (((BitVec.ofInt 64 (wr (a + b))) >>> (1#64).toNat).toNat : Int) ∧ wr (((BitVec.ofInt 64 (wr (a + b))) >>> (1#64).toNat).toNat : Int) < b ∧ wr (wr (((BitVec.ofInt 64 (wr (a + b))) >>> (1#64).toNat).toNat : Int) + 1) = wr (((BitVec.ofInt 64 (wr (a + b))) >>> (1#64).toNat).toNat : Int) + 1 := by
  rw [mid_eq (by omega) (by omega)]
  exact ⟨by omega, by omega, wr_of (by omega) (by omega)⟩
theorem bs_L1 (x0 : List Int) (x1 : Int) (K : Int → Int × Bool) (hK : ∀ i, (K i).1 = i) (hl : x0.length ≤ 1000000) : ∀ (m : Nat) (a b : Int), 0 ≤ a → a ≤ b → b ≤ x0.length → b - a ≤ m →
    (slices_BinarySearch__int_int__L1 x0 x1 K m a b).1 = a ∨ (0 ≤ (slices_BinarySearch__int_int__L1 x0 x1 K m a b).1 ∧ (slices_BinarySearch__int_int__L1 x0 x1 K m a b).1 ≤ x0.length)
  | 0, a, b, h0, h1, h2, h3 => by rw [slices_BinarySearch__int_int__L1, hK]; exact .inl rfl
  | m + 1, a, b, h0, h1, h2, h3 => by
    rw [slices_BinarySearch__int_int__L1]
    split
    · rename_i hc
      simp only [decide_eq_true_eq] at hc
      have hm := bmid h0 hc (by omega)
      simp only [LET]
      split
      · have e : wr (wr (((BitVec.ofInt 64 (wr (a + b))) >>> (1#64).toNat).toNat : Int) + 1) = wr (((BitVec.ofInt 64 (wr (a + b))) >>> (1#64).toNat).toNat : Int) + 1 := wr_of (by omega) (by omega)
        rw [e]
        rcases bs_L1 x0 x1 K hK hl m (wr (((BitVec.ofInt 64 (wr (a + b))) >>> (1#64).toNat).toNat : Int) + 1) b (by omega) (by omega) h2 (by omega) with h | h
        · right; omega
        · right; exact h
      · rcases bs_L1 x0 x1 K hK hl m a (wr (((BitVec.ofInt 64 (wr (a + b))) >>> (1#64).toNat).toNat : Int)) h0 (by omega) (by omega) (by omega) with h | h
        · left; exact h
        · right; exact h
    · rw [hK]; exact .inl rfl
theorem bs_use {x0 : List Int} {x1 : Int} {y : Int × Bool} (hl : x0.length ≤ 1000000) (h : slices_BinarySearch__int_int_ x0 x1 = y) : 0 ≤ y.1 ∧ y.1 ≤ x0.length := by
  subst h
  unfold slices_BinarySearch__int_int_
  rcases bs_L1 x0 x1 (fun x7_105 => (x7_105, ((decide (x7_105 < (x0.length : Int))) && ((decide ((ix x0 x7_105) = x1)) || ((slices_isNaN_int (ix x0 x7_105)) && (slices_isNaN_int x1)))))) (fun i => rfl) hl (Int.toNat ((x0.length : Int) - 0)) 0 (x0.length : Int) (Int.le_refl _) (by omega) (Int.le_refl _) (by omega) with h | h
  · rw [h]; omega
  · exact h
theorem ord1_perm (w : Int) (r : List Int) : (digraph_order_1 w r).Perm (w :: r) := by
  unfold digraph_order_1 slices_Insert__int_int_
  simp only [LET]
  generalize (slices_BinarySearch__int_int_ r w).1.toNat = p
  rw [List.append_assoc]
  refine (List.perm_append_comm_assoc _ _ _).trans ?_
  rw [List.take_append_drop]
  exact List.Perm.refl _
/-- The nodes that are ready: different ones, below x, none with a number above 0. -/
structure OJ (W : List Int) (x : Int) (r : List Int) : Prop where
  nd : r.Nodup
  at_ : ∀ v ∈ r, 0 ≤ v ∧ v < x ∧ ix W v ≤ 0
theorem OJ.nil {W : List Int} {x : Int} : OJ W x [] := ⟨List.nodup_nil, fun v h => by cases h⟩
theorem OJ.next {W : List Int} {x : Int} {r : List Int} (h : OJ W x r) : OJ W (x + 1) r := ⟨h.nd, fun v hv => by have := h.at_ v hv; omega⟩
theorem OJ.add {W : List Int} {x : Int} {r y : List Int} (h : OJ W x r) (h0 : 0 ≤ x) (hx : ix W x = 0) (e : digraph_order_1 x r = y) : OJ W (x + 1) y := by
  subst e
  have p := ord1_perm x r
  refine ⟨p.nodup_iff.2 (List.nodup_cons.2 ⟨fun hm => by have := h.at_ x hm; omega, h.nd⟩), fun v hv => ?_⟩
  rcases List.mem_cons.1 (p.mem_iff.1 hv) with rfl | hv
  · omega
  · have := h.at_ v hv; omega
theorem OJ.len {W : List Int} {x : Int} {r : List Int} (h : OJ W x r) (h0 : 0 ≤ x) : (r.length : Int) ≤ x := by
  have := nd_len x.toNat r h.nd (fun v hv => by have := h.at_ v hv; omega)
  omega
/-- Ready and put out: different nodes, none with a number above 0. -/
structure OI (n : Nat) (W r o : List Int) (b : Int) : Prop where
  oj : OJ W n (o ++ r)
  wb : WB W b
theorem OI.len {n : Nat} {W r o : List Int} {b : Int} (h : OI n W r o b) : (o.length : Int) + r.length ≤ n := by
  have := h.oj.len (by omega)
  rw [List.length_append] at this
  omega
theorem OI.mono {n : Nat} {W r o : List Int} {b c : Int} (h : OI n W r o b) (hc : b ≤ c) : OI n W r o c := ⟨h.oj, h.wb.mono hc⟩
theorem OI.start {n : Nat} {W r : List Int} {b : Int} (h : OJ W n r) (w : WB W b) : OI n W r [] b := ⟨h, w⟩
theorem OI.take {n : Nat} {W r o y : List Int} {b : Int} (h : OI n W r o b) (hr : 0 < (r.length : Int)) (e : slices_Delete__int_int_ r 0 1 = y) : OI n W y (o ++ [ix r 0]) b := by
  cases r with
  | nil => simp at hr
  | cons v r =>
    have : y = r := by rw [← e]; unfold slices_Delete__int_int_; simp
    subst this
    refine ⟨?_, h.wb⟩
    have e2 : ix (v :: y) 0 = v := rfl
    rw [e2, List.append_assoc]
    exact h.oj
theorem OI.head {n : Nat} {W r o : List Int} {b : Int} (h : OI n W r o b) (hr : 0 < (r.length : Int)) : 0 ≤ ix r 0 ∧ ix r 0 < n := by
  have := h.oj.at_ (ix r 0) (List.mem_append_right _ (ix_mem (Int.le_refl _) hr))
  omega
theorem OI.step {n : Nat} {W r o : List Int} {b w : Int} (h : OI n W r o b) (hb : b ≤ 1000000) (h0 : 0 ≤ w) (h1 : w < n) (hW : W.length = n) : OI n (W.set w.toNat (wr (ix W w - 1))) r o (b + 1) := by
  have hw := h.wb w h0 (by omega)
  refine ⟨⟨h.oj.nd, fun v hv => ?_⟩, h.wb.dec hb h0 (by omega)⟩
  obtain ⟨v0, v1, v2⟩ := h.oj.at_ v hv
  refine ⟨v0, v1, ?_⟩
  rw [ix_set v0 (by omega) h0]
  split
  · rename_i e; subst e
    rw [wr_of (by omega) (by omega)]
    omega
  · exact v2
theorem OI.add {n : Nat} {W r o y : List Int} {b w : Int} (h : OI n W r o b) (hb : b ≤ 1000000) (h0 : 0 ≤ w) (h1 : w < n) (hW : W.length = n) (hz : ix (W.set w.toNat (wr (ix W w - 1))) w = 0) (e : digraph_order_1 w r = y) : OI n (W.set w.toNat (wr (ix W w - 1))) y o (b + 1) := by
  have hs := h.step hb h0 h1 hW
  subst e
  have p := ord1_perm w r
  have hw := h.wb w h0 (by omega)
  have hz' := hz
  rw [ix_set h0 (by omega) h0, if_pos rfl, wr_of (by omega) (by omega)] at hz
  have hnew : w ∉ o ++ r := fun hm => by have := (h.oj.at_ w hm).2.2; omega
  have p2 : (o ++ digraph_order_1 w r).Perm (w :: (o ++ r)) := (p.append_left o).trans List.perm_middle
  refine ⟨⟨p2.nodup_iff.2 (List.nodup_cons.2 ⟨hnew, h.oj.nd⟩), fun v hv => ?_⟩, hs.wb⟩
  rcases List.mem_cons.1 (p2.mem_iff.1 hv) with rfl | hv
  · exact ⟨h0, h1, Int.le_of_eq hz'⟩
  · exact hs.oj.at_ v hv
/-- Distances under way: the queue's nodes are those that have one. -/
structure QI (n : Nat) (out q : List Int) : Prop where
  len : out.length = n
  nd : q.Nodup
  rg : ∀ v ∈ q, 0 ≤ v ∧ v < (n : Int)
  mem : ∀ v : Int, 0 ≤ v → v < n → (v ∈ q ↔ 0 ≤ ix out v)
  lt : ∀ v : Int, 0 ≤ v → v < n → -1 ≤ ix out v ∧ ix out v < q.length
theorem QI.qlen {n : Nat} {out q : List Int} (h : QI n out q) : q.length ≤ n := nd_len n q h.nd h.rg
theorem QI.at {n : Nat} {out q : List Int} (h : QI n out q) {i : Int} (h0 : 0 ≤ i) (h1 : i < q.length) : 0 ≤ ix q i ∧ ix q i < n ∧ 0 ≤ ix out (ix q i) ∧ ix out (ix q i) < q.length := by
  have hm := ix_mem h0 h1
  have := h.rg _ hm
  have := (h.mem _ this.1 this.2).1 hm
  have := h.lt (ix q i) (by omega) (by omega)
  omega
theorem qi_new {n : Nat} {o : List Int} {v : Int} (hl : o.length = n) (ho : ∀ k : Int, 0 ≤ k → k < n → ix o k = -1) (h0 : 0 ≤ v) (h1 : v < n) : QI n (o.set v.toNat 0) [v] := by
  have hs : ∀ k : Int, 0 ≤ k → k < n → ix (o.set v.toNat 0) k = if k = v then 0 else -1 := fun k k0 k1 => by
    rw [ix_set k0 (by omega) h0, ho k k0 k1]
  refine ⟨by rw [List.length_set, hl], List.nodup_cons.2 ⟨by simp, List.nodup_nil⟩, fun k hk => ?_, fun k k0 k1 => ?_, fun k k0 k1 => ?_⟩
  · simp at hk; omega
  · rw [hs k k0 k1]; simp only [List.mem_singleton]; split <;> omega
  · rw [hs k k0 k1]; simp only [List.length_singleton]; split <;> omega
theorem QI.visit {n : Nat} {out q : List Int} {w d : Int} (h : QI n out q) (h0 : 0 ≤ w) (h1 : w < n) (d0 : 0 ≤ d) (d1 : d ≤ q.length) (y : List Int × List Int) (e : digraph_distances_1 w d out q = y) : QI n y.1 y.2 ∧ q <+: y.2 ∧ (∀ v ∈ q, ix y.1 v = ix out v) := by
  subst e
  unfold digraph_distances_1
  split
  · rename_i hc
    simp only [decide_eq_true_eq] at hc
    have hnew : w ∉ q := fun hm => by have := (h.mem w h0 h1).1 hm; omega
    have hs : ∀ k : Int, 0 ≤ k → k < n → ix (out.set w.toNat d) k = if k = w then d else ix out k := fun k k0 k1 => ix_set k0 (by rw [h.len]; exact k1) h0
    refine ⟨⟨by rw [List.length_set, h.len], ?_, fun v hv => ?_, fun v v0 v1 => ?_, fun v v0 v1 => ?_⟩, List.prefix_append _ _, fun v hv => ?_⟩
    · exact (List.perm_append_singleton w q).nodup_iff.2 (List.nodup_cons.2 ⟨hnew, h.nd⟩)
    · rcases List.mem_append.1 hv with hv | hv
      · exact h.rg v hv
      · simp at hv; omega
    · rw [hs v v0 v1]
      simp only [List.mem_append, List.mem_singleton]
      split
      · rename_i e; simp [e, d0]
      · rename_i e; rw [h.mem v v0 v1]; simp [e]
    · rw [hs v v0 v1]
      have := h.lt v v0 v1
      simp only [List.length_append, List.length_singleton]
      split <;> omega
    · have hr := h.rg v hv
      rw [hs v hr.1 hr.2, if_neg (fun e : v = w => hnew (by rw [← e]; exact hv))]
  · exact ⟨h, List.prefix_refl _, fun v _ => rfl⟩
theorem node_use {g : List (List Int)} {v : Int} {y : Bool} (h : digraph_node g v = y) : y = true → 0 ≤ v ∧ v < g.length := fun e => by
  subst h
  unfold digraph_node at e
  simp only [Bool.and_eq_true, decide_eq_true_eq] at e
  exact e
/-- All below i are -1. -/
def NB (z : List Int) (i : Int) : Prop := ∀ k : Int, 0 ≤ k → k < i → ix z k = -1
theorem NB.nil {z : List Int} : NB z 0 := fun k h0 h1 => by omega
theorem NB.mono {z : List Int} {i j : Int} (h : NB z i) (hj : j ≤ i) : NB z j := fun k h0 h1 => h k h0 (by omega)
theorem NB.next {z : List Int} {i : Int} (h : NB z i) (h0 : 0 ≤ i) (h1 : i < z.length) : NB (z.set i.toNat (-1)) (i + 1) := fun k k0 k1 => by
  rw [ix_set k0 (by omega) h0]
  split
  · rfl
  · exact h k k0 (by omega)
theorem qi_pre {n : Nat} {out q q' : List Int} (h : QI n out q') (hp : q <+: q') {i : Int} (h0 : 0 ≤ i) (h1 : i < q.length) : 0 ≤ ix q i ∧ ix q i < n ∧ 0 ≤ ix out (ix q i) ∧ ix out (ix q i) < q'.length ∧ q'.length ≤ n ∧ out.length = n := by
  have hm := hp.subset (ix_mem h0 h1)
  have hr := h.rg _ hm
  have := (h.mem _ hr.1 hr.2).1 hm
  have := h.lt (ix q i) hr.1 hr.2
  have := h.qlen
  have := h.len
  omega
theorem WB.at_dec {W : List Int} {b k : Int} (h : WB W b) (hb : b ≤ 1000000) (h0 : 0 ≤ k) (h1 : k < W.length) : wr (ix W k - 1) = ix W k - 1 ∧ -b ≤ ix W k ∧ ix W k ≤ b := by
  have := h k h0 h1
  exact ⟨wr_of (by omega) (by omega), this.1, this.2⟩
/-- Edges. -/
def Ed (g : List (List Int)) (v w : Int) : Prop := 0 ≤ v ∧ v < g.length ∧ 0 ≤ w ∧ w < g.length ∧ w ∈ ix g v
/-- A graph of n nodes in order: rows strictly ascending, edges as told. -/
structure Cl (n : Nat) (c : List (List Int)) (A : Int → Int → Prop) : Prop where
  len : c.length = n
  asc : ∀ v : Int, 0 ≤ v → v < n → (ix c v).Pairwise (fun a b => a < b)
  mem : ∀ v w : Int, 0 ≤ v → v < n → (w ∈ ix c v ↔ A v w)
  rg : ∀ v w : Int, A v w → 0 ≤ v ∧ v < n ∧ 0 ≤ w ∧ w < n
theorem asc_nd {l : List Int} (h : l.Pairwise (fun a b => a < b)) : l.Nodup := h.imp fun h e => by omega
theorem asc_ext {l k : List Int} (hl : l.Pairwise (fun a b => a < b)) (hk : k.Pairwise (fun a b => a < b)) (he : ∀ y, y ∈ l ↔ y ∈ k) : l = k :=
  strict_ext int_sto (hl.imp fun h => by simpa using h) (hk.imp fun h => by simpa using h) he
theorem Cl.uniq {n : Nat} {c d : List (List Int)} {A B : Int → Int → Prop} (h : Cl n c A) (k : Cl n d B) (e : ∀ v w, A v w ↔ B v w) : c = d :=
  ext_ix (by rw [h.len, k.len]) fun v v0 v1 => by
    rw [h.len] at v1
    exact asc_ext (h.asc v v0 v1) (k.asc v v0 v1) fun w => by rw [h.mem v w v0 v1, k.mem v w v0 v1, e]
theorem Cl.edge {n : Nat} {c : List (List Int)} {A : Int → Int → Prop} (h : Cl n c A) (v w : Int) : Ed c v w ↔ A v w := by
  unfold Ed
  rw [h.len]
  constructor
  · rintro ⟨v0, v1, w0, w1, hm⟩
    exact (h.mem v w v0 v1).1 hm
  · intro ha
    obtain ⟨v0, v1, w0, w1⟩ := h.rg v w ha
    exact ⟨v0, v1, w0, w1, (h.mem v w v0 v1).2 ha⟩
theorem Cl.row {n : Nat} {c : List (List Int)} {A : Int → Int → Prop} (h : Cl n c A) {v : Int} (h0 : 0 ≤ v) (h1 : v < n) : (ix c v).length ≤ n :=
  nd_len n _ (asc_nd (h.asc v h0 h1)) fun w hw => by have := h.rg v w ((h.mem v w h0 h1).1 hw); omega
theorem Cl.gd {n : Nat} {c : List (List Int)} {A : Int → Int → Prop} (h : Cl n c A) (hn : n ≤ 24) : Gd n c :=
  ⟨h.len, fun k k0 k1 => by have := h.row k0 (by rw [← h.len]; exact k1); omega, fun k k0 k1 w hw => by have := h.rg k w ((h.mem k w k0 (by rw [← h.len]; exact k1)).1 hw); omega⟩
theorem clean_cl (g : List (List Int)) : Cl g.length (digraph_clean g) (Ed g) := by
  obtain ⟨h1, h2⟩ := clean_at g
  refine ⟨h1, fun v v0 v1 => ?_, fun v w v0 v1 => ?_, fun v w h => ⟨h.1, h.2.1, h.2.2.1, h.2.2.2.1⟩⟩
  · rw [h2 v v0 v1]; exact cleanL_pw _ _
  · rw [h2 v v0 v1, cleanL_mem]
    unfold Ed
    exact ⟨fun h => ⟨v0, v1, h.2.1, h.2.2, h.1⟩, fun h => ⟨h.2.2.2.2, h.2.2.1, h.2.2.2.1⟩⟩
/-! Edge -/
theorem edge_L1 (g : List (List Int)) (v w : Int) (K : Unit → Bool) : ∀ (m : Nat) (i : Int), m = Int.toNat (((ix g v).length : Int) - i) → 0 ≤ i → ref06_Edge_L1 g v w K m i = if w ∈ (ix g v).drop i.toNat then true else K ()
  | 0, i, hm, h0 => by rw [ref06_Edge_L1, List.drop_eq_nil_of_le (by omega)]; simp
  | m + 1, i, hm, h0 => by
    rw [ref06_Edge_L1, edge_L1 g v w K m (i + 1) (by omega) (by omega), drop_ix h0 (by omega)]
    by_cases e : ix (ix g v) i = w
    · simp [e]
    · have e' : ¬ w = ix (ix g v) i := fun h => e h.symm
      simp [e, e']
theorem edge_eq (g : List (List Int)) (v w : Int) : ref06_Edge g v w = true ↔ Ed g v w := by
  unfold ref06_Edge Ed
  by_cases hc : ((((decide (v < 0)) || (decide ((g.length : Int) ≤ v))) || (decide (w < 0))) || (decide ((g.length : Int) ≤ w))) = true
  · rw [if_pos hc]
    simp only [Bool.or_eq_true, decide_eq_true_eq] at hc
    simp only [Bool.false_eq_true, false_iff]
    omega
  · rw [if_neg hc]
    simp only [Bool.or_eq_true, decide_eq_true_eq] at hc
    rw [edge_L1 g v w _ _ 0 rfl (Int.le_refl _)]
    simp only [Int.toNat_zero, List.drop_zero]
    by_cases hm : w ∈ ix g v
    · simp only [hm, if_true, true_iff]; exact ⟨by omega, by omega, by omega, by omega, trivial⟩
    · simp [hm]
theorem edge_false (g : List (List Int)) (v w : Int) : ref06_Edge g v w = false ↔ ¬ Ed g v w := by rw [← edge_eq]; simp
/-! Reverse -/
structure RS (n : Nat) (c : List (List Int)) (z : List (List Int)) (P : Int → Int → Prop) : Prop where
  len : z.length = n
  asc : ∀ w : Int, 0 ≤ w → w < n → (ix z w).Pairwise (fun a b => a < b)
  mem : ∀ w u : Int, 0 ≤ w → w < n → (u ∈ ix z w ↔ P w u)
theorem mem_take_succ {l : List Int} {i : Int} (h0 : 0 ≤ i) (h1 : i < l.length) (w : Int) : w ∈ l.take (i + 1).toNat ↔ w ∈ l.take i.toNat ∨ w = ix l i := by
  rw [show (i + 1).toNat = i.toNat + 1 by omega, List.take_succ_eq_append_getElem (by omega), ix_lt h0 h1, List.mem_append, List.mem_singleton]
theorem rev_L2 {n : Nat} {c : List (List Int)} {A : Int → Int → Prop} (h : Cl n c A) (v : Int) (v0 : 0 ≤ v) (v1 : v < n) (K : List (List Int) → List (List Int)) :
    ∀ (m : Nat) (i : Int) (z : List (List Int)), m = Int.toNat (((ix c v).length : Int) - i) → 0 ≤ i → i ≤ (ix c v).length → RS n c z (fun w u => (0 ≤ u ∧ u < v ∧ w ∈ ix c u) ∨ (u = v ∧ w ∈ (ix c v).take i.toNat)) →
    ∃ z', digraph_Reverse_L2 c v K m i z = K z' ∧ RS n c z' (fun w u => 0 ≤ u ∧ u < v + 1 ∧ w ∈ ix c u)
  | 0, i, z, hm, h0, h1, hz => by
    refine ⟨z, by rw [digraph_Reverse_L2], hz.len, hz.asc, fun w u w0 w1 => ?_⟩
    rw [hz.mem w u w0 w1, List.take_of_length_le (by omega)]
    constructor
    · rintro (⟨a, b, d⟩ | ⟨rfl, b⟩)
      · exact ⟨a, by omega, d⟩
      · exact ⟨v0, by omega, b⟩
    · rintro ⟨a, b, d⟩
      by_cases e : u = v
      · subst e; exact .inr ⟨rfl, d⟩
      · exact .inl ⟨a, by omega, d⟩
  | m + 1, i, z, hm, h0, h1, hz => by
    have hi : i < (ix c v).length := by omega
    have hw := h.rg v (ix (ix c v) i) ((h.mem v _ v0 v1).1 (ix_mem h0 hi))
    have hlz := hz.len
    rw [digraph_Reverse_L2]
    refine rev_L2 h v v0 v1 K m (i + 1) _ (by omega) (by omega) (by omega) ⟨by rw [List.length_set, hz.len], fun w w0 w1 => ?_, fun w u w0 w1 => ?_⟩
    · rw [ix_set w0 (by omega) hw.2.2.1]
      split
      · rename_i e
        subst e
        rw [List.pairwise_append]
        refine ⟨hz.asc _ w0 w1, by simp, fun a ha b hb => ?_⟩
        simp only [List.mem_singleton] at hb
        subst hb
        rcases (hz.mem _ a w0 w1).1 ha with ⟨_, q, _⟩ | ⟨_, q⟩
        · exact q
        · exfalso
          have hnd := h.asc b v0 v1
          obtain ⟨j, hj, e⟩ := List.getElem_of_mem q
          rw [List.length_take] at hj
          rw [List.getElem_take, ix_lt h0 hi] at e
          have := List.pairwise_iff_getElem.1 hnd j i.toNat (by omega) (by omega) (by omega)
          omega
      · exact hz.asc w w0 w1
    · rw [ix_set w0 (by omega) hw.2.2.1, mem_take_succ h0 hi]
      split
      · rename_i e
        rw [List.mem_append, hz.mem _ u (by omega) (by omega)]
        subst e
        simp only [List.mem_singleton]
        constructor
        · rintro ((q | q) | q)
          · exact .inl q
          · exact .inr ⟨q.1, .inl q.2⟩
          · exact .inr ⟨q, by simp⟩
        · rintro (q | ⟨q, _⟩)
          · exact .inl (.inl q)
          · exact .inr q
      · rename_i e
        rw [hz.mem w u w0 w1]
        simp [e]
theorem rev_L1 {n : Nat} {c : List (List Int)} {A : Int → Int → Prop} (h : Cl n c A) : ∀ (m : Nat) (v : Int) (z : List (List Int)), m = Int.toNat ((c.length : Int) - v) → 0 ≤ v → v ≤ n → RS n c z (fun w u => 0 ≤ u ∧ u < v ∧ w ∈ ix c u) →
    RS n c (digraph_Reverse_L1 c (fun z => z) m v z) (fun w u => 0 ≤ u ∧ u < n ∧ w ∈ ix c u)
  | 0, v, z, hm, h0, h1, hz => by
    have hl := h.len
    rw [digraph_Reverse_L1]
    have e : v = n := by omega
    rw [e] at hz
    exact hz
  | m + 1, v, z, hm, h0, h1, hz => by
    have hl := h.len
    rw [digraph_Reverse_L1]
    obtain ⟨z', e, hz'⟩ := rev_L2 h v h0 (by omega) (fun z => digraph_Reverse_L1 c (fun z => z) m (v + 1) z) _ 0 z rfl (Int.le_refl _) (by omega) ⟨hz.len, hz.asc, fun w u w0 w1 => by rw [hz.mem w u w0 w1]; simp⟩
    rw [e]
    exact rev_L1 h m (v + 1) z' (by omega) (by omega) (by omega) hz'
theorem ix_rep {α : Type} [Inhabited α] {n : Nat} {a : α} {k : Int} (h0 : 0 ≤ k) (h1 : k < n) : ix (List.replicate n a) k = a := by rw [ix_lt h0 (by simpa using h1)]; simp
theorem rev_cl (g : List (List Int)) : Cl g.length (digraph_Reverse g) (fun w v => Ed g v w) := by
  have h := clean_cl g
  have hr := rev_L1 h _ 0 (List.replicate g.length []) rfl (Int.le_refl _) (by omega) ⟨by simp, fun w w0 w1 => by rw [ix_rep w0 w1]; simp, fun w u w0 w1 => by rw [ix_rep w0 w1]; simp; omega⟩
  unfold digraph_Reverse
  simp only [LET]
  refine ⟨hr.len, hr.asc, fun w u w0 w1 => ?_, fun w v q => ⟨q.2.2.1, q.2.2.2.1, q.1, q.2.1⟩⟩
  have hm := hr.mem w u w0 w1
  refine Iff.trans hm ⟨fun ⟨a, b, d⟩ => (h.mem u w a b).1 d, fun q => ⟨q.1, q.2.1, (h.mem u w q.1 q.2.1).2 q⟩⟩
theorem rrev_L2 (g : List (List Int)) (w : Int) (w0 : 0 ≤ w) (K : List (List Int) → List (List Int)) : ∀ (m : Nat) (i : Int) (z : List (List Int)), m = Int.toNat ((g.length : Int) - i) → 0 ≤ i → i ≤ g.length → w < z.length →
    (ix z w).Pairwise (fun a b => a < b) → (∀ u, u ∈ ix z w ↔ (u < i ∧ Ed g u w)) →
    ∃ l : List Int, ref06_Reverse_L2 g w K m i z = K (z.set w.toNat l) ∧ l.Pairwise (fun a b => a < b) ∧ ∀ u, u ∈ l ↔ Ed g u w
  | 0, i, z, hm, h0, h1, hz, hp, hq => by
    refine ⟨ix z w, ?_, hp, fun u => ?_⟩
    · rw [ref06_Reverse_L2]
      congr 1
      rw [ix_lt w0 hz]; simp
    · rw [hq]
      exact ⟨fun q => q.2, fun q => ⟨by have := q.2.1; omega, q⟩⟩
  | m + 1, i, z, hm, h0, h1, hz, hp, hq => by
    rw [ref06_Reverse_L2]
    simp only [LET]
    by_cases hc : ref06_Edge g i w = true
    · rw [if_pos hc]
      have he := (edge_eq g i w).1 hc
      obtain ⟨l, e, a, b⟩ := rrev_L2 g w w0 K m (i + 1) (z.set w.toNat (ix z w ++ [i])) (by omega) (by omega) (by omega) (by rw [List.length_set]; exact hz)
        (by
          rw [ix_set w0 hz w0, if_pos rfl, List.pairwise_append]
          refine ⟨hp, by simp, fun a ha b hb => ?_⟩
          simp only [List.mem_singleton] at hb
          have := ((hq a).1 ha).1
          omega)
        (fun u => by
          rw [ix_set w0 hz w0, if_pos rfl, List.mem_append, hq]
          simp only [List.mem_singleton]
          constructor
          · rintro (q | rfl)
            · exact ⟨by omega, q.2⟩
            · exact ⟨by omega, he⟩
          · rintro ⟨q, r⟩
            by_cases e : u = i
            · exact .inr e
            · exact .inl ⟨by omega, r⟩)
      refine ⟨l, ?_, a, b⟩
      rw [e, List.set_set]
    · rw [if_neg hc]
      have he : ¬ Ed g i w := fun q => hc ((edge_eq g i w).2 q)
      refine rrev_L2 g w w0 K m (i + 1) z (by omega) (by omega) (by omega) hz hp fun u => ?_
      rw [hq]
      constructor
      · rintro ⟨q, r⟩; exact ⟨by omega, r⟩
      · rintro ⟨q, r⟩
        refine ⟨?_, r⟩
        have : u ≠ i := fun e => he (e ▸ r)
        omega
theorem rrev_L1 (g : List (List Int)) : ∀ (m : Nat) (v : Int) (z : List (List Int)), m = Int.toNat ((g.length : Int) - v) → 0 ≤ v → v ≤ g.length → z.length = g.length →
    (∀ w : Int, v ≤ w → w < g.length → ix z w = []) → (∀ w : Int, 0 ≤ w → w < v → (ix z w).Pairwise (fun a b => a < b) ∧ ∀ u, u ∈ ix z w ↔ Ed g u w) →
    Cl g.length (ref06_Reverse_L1 g (fun z => z) m v z) (fun w u => Ed g u w)
  | 0, v, z, hm, h0, h1, hl, he, hf => by
    rw [ref06_Reverse_L1]
    exact ⟨hl, fun w w0 w1 => (hf w w0 (by omega)).1, fun w u w0 w1 => (hf w w0 (by omega)).2 u, fun w v q => ⟨q.2.2.1, q.2.2.2.1, q.1, q.2.1⟩⟩
  | m + 1, v, z, hm, h0, h1, hl, he, hf => by
    rw [ref06_Reverse_L1]
    obtain ⟨l, e, a, b⟩ := rrev_L2 g v h0 (fun z => ref06_Reverse_L1 g (fun z => z) m (v + 1) z) (Int.toNat ((g.length : Int) - 0)) 0 z rfl (Int.le_refl _) (by omega) (by omega)
      (by rw [he v (Int.le_refl _) (by omega)]; simp) (fun u => by rw [he v (Int.le_refl _) (by omega)]; simp; intro q r; have := r.1; omega)
    rw [e]
    refine rrev_L1 g m (v + 1) _ (by omega) (by omega) (by omega) (by rw [List.length_set]; exact hl) (fun w q r => ?_) (fun w q r => ?_)
    · rw [ix_set (by omega) (by omega) h0, if_neg (by omega)]
      exact he w (by omega) r
    · rw [ix_set q (by omega) h0]
      split
      · rename_i e; subst e; exact ⟨a, b⟩
      · exact hf w q (by omega)
theorem rrev_cl (g : List (List Int)) : Cl g.length (ref06_Reverse g) (fun w v => Ed g v w) := by
  unfold ref06_Reverse
  exact rrev_L1 g _ 0 _ rfl (Int.le_refl _) (by omega) (by simp) (fun w q r => ix_rep q r) (fun w q r => by omega)
theorem rev_eq (g : List (List Int)) : digraph_Reverse g = ref06_Reverse g := (rev_cl g).uniq (rrev_cl g) fun _ _ => Iff.rfl
/-- A walk of k steps leads from s to v. -/
def Wk (A : Int → Int → Prop) (s : Int) : Nat → Int → Prop
  | 0, v => v = s
  | k + 1, v => ∃ u, Wk A s k u ∧ A u v
/-- A shortest one. -/
def Mn (A : Int → Int → Prop) (s : Int) (k : Nat) (v : Int) : Prop := Wk A s k v ∧ ∀ j, Wk A s j v → k ≤ j
theorem wk_congr {A B : Int → Int → Prop} (h : ∀ u v, A u v ↔ B u v) (s : Int) : ∀ (k : Nat) (v : Int), Wk A s k v ↔ Wk B s k v
  | 0, v => Iff.rfl
  | k + 1, v => by simp only [Wk, wk_congr h s k, h]
theorem wk_min {A : Int → Int → Prop} {s v : Int} : ∀ (k : Nat), Wk A s k v → ∃ j, j ≤ k ∧ Mn A s j v := by
  intro k
  induction k using Nat.strongRecOn with
  | _ k ih =>
    intro h
    by_cases hx : ∃ j, j < k ∧ Wk A s j v
    · obtain ⟨j, hj, hw⟩ := hx
      obtain ⟨i, hi, hm⟩ := ih j hj hw
      exact ⟨i, by omega, hm⟩
    · exact ⟨k, Nat.le_refl _, h, fun j hj => by
        rcases Nat.lt_or_ge j k with q | q
        · exact absurd ⟨j, q, hj⟩ hx
        · exact q⟩
theorem Mn.uniq {A : Int → Int → Prop} {s v : Int} {j k : Nat} (h : Mn A s j v) (g : Mn A s k v) : j = k := Nat.le_antisymm (h.2 k g.1) (g.2 j h.1)
theorem Mn.pred {A : Int → Int → Prop} {s v : Int} {k : Nat} (h : Mn A s (k + 1) v) : ∃ u, Mn A s k u ∧ A u v := by
  obtain ⟨u, hu, ha⟩ := h.1
  exact ⟨u, ⟨hu, fun j hj => by have := h.2 (j + 1) ⟨u, hj, ha⟩; omega⟩, ha⟩
section
variable {n : Nat} {A : Int → Int → Prop} {s : Int}
theorem mn_list (hA : ∀ u v, A u v → 0 ≤ v ∧ v < (n : Int)) (hs : 0 ≤ s ∧ s < (n : Int)) : ∀ (k : Nat) (v : Int), Mn A s k v → ∃ l : List Int, l.length = k + 1 ∧ l.Nodup ∧ ∀ x ∈ l, (0 ≤ x ∧ x < (n : Int)) ∧ ∃ j, j ≤ k ∧ Mn A s j x
  | 0, v, h => ⟨[v], rfl, List.nodup_cons.2 ⟨by simp, List.nodup_nil⟩, fun x hx => by
      simp only [List.mem_singleton] at hx
      subst hx
      have e : x = s := h.1
      exact ⟨by rw [e]; exact hs, 0, Nat.le_refl _, h⟩⟩
  | k + 1, v, h => by
    obtain ⟨u, hu, ha⟩ := h.pred
    obtain ⟨l, hl, hd, hx⟩ := mn_list hA hs k u hu
    refine ⟨v :: l, by simp [hl], List.nodup_cons.2 ⟨fun hv => ?_, hd⟩, fun x hxx => ?_⟩
    · obtain ⟨_, j, hj, hm⟩ := hx v hv
      have := hm.uniq h
      omega
    · rcases List.mem_cons.1 hxx with rfl | hxx
      · exact ⟨hA _ _ ha, k + 1, Nat.le_refl _, h⟩
      · obtain ⟨a, j, hj, hm⟩ := hx x hxx
        exact ⟨a, j, by omega, hm⟩
theorem mn_lt (hA : ∀ u v, A u v → 0 ≤ v ∧ v < (n : Int)) (hs : 0 ≤ s ∧ s < (n : Int)) {k : Nat} {v : Int} (h : Mn A s k v) : k < n := by
  obtain ⟨l, hl, hd, hx⟩ := mn_list hA hs k v h
  have := nd_len n l hd fun x hxx => (hx x hxx).1
  omega
end
/-- The list of the shortest distances from s, -1 where there is none. -/
structure Ds (n : Nat) (A : Int → Int → Prop) (s : Int) (d : List Int) : Prop where
  len : d.length = n
  at_ : ∀ v : Int, 0 ≤ v → v < n → (ix d v = -1 ∧ ∀ k, ¬ Wk A s k v) ∨ ∃ k : Nat, ix d v = k ∧ Mn A s k v ∧ k < n
theorem Ds.uniq {n : Nat} {A B : Int → Int → Prop} {s : Int} {d e : List Int} (h : Ds n A s d) (g : Ds n B s e) (hab : ∀ u v, A u v ↔ B u v) : d = e :=
  ext_ix (by rw [h.len, g.len]) fun v v0 v1 => by
    rw [h.len] at v1
    rcases h.at_ v v0 v1 with ⟨a, b⟩ | ⟨k, a, b, _⟩ <;> rcases g.at_ v v0 v1 with ⟨c, d⟩ | ⟨j, c, d, _⟩
    · rw [a, c]
    · exact absurd ((wk_congr hab s j v).2 d.1) (b j)
    · exact absurd ((wk_congr hab s k v).1 b.1) (d k)
    · have h1 := b.2 j ((wk_congr hab s j v).2 d.1)
      have h2 := d.2 k ((wk_congr hab s k v).1 b.1)
      rw [a, c]; congr 1; omega
theorem Ds.wb {n : Nat} {A : Int → Int → Prop} {s : Int} {d : List Int} (h : Ds n A s d) (hn : n ≤ 1000) : WB d 1000 := fun k k0 k1 => by
  rw [h.len] at k1
  rcases h.at_ k k0 k1 with ⟨a, _⟩ | ⟨j, a, _, b⟩ <;> rw [a] <;> omega
/-! Breadth first -/
structure BI (n : Nat) (A : Int → Int → Prop) (s : Int) (out q : List Int) (i : Int) : Prop where
  qi : QI n out q
  s0 : s ∈ q ∧ ix out s = 0
  wk : ∀ v ∈ q, Wk A s (ix out v).toNat v
  asc : q.Pairwise (fun a b => ix out a ≤ ix out b)
  top : i < q.length → ∀ v ∈ q, ix out v ≤ ix out (ix q i) + 1
  cl : ∀ j : Int, 0 ≤ j → j < i → j < q.length → ∀ w, A (ix q j) w → 0 ≤ ix out w ∧ ix out w ≤ ix out (ix q j) + 1
theorem ix_app {l k : List Int} {i : Int} (h0 : 0 ≤ i) (h1 : i < l.length) : ix (l ++ k) i = ix l i := by
  rw [ix_lt h0 (by rw [List.length_append]; omega), ix_lt h0 h1, List.getElem_append_left]
theorem ix_pre {l k : List Int} (h : l <+: k) {i : Int} (h0 : 0 ≤ i) (h1 : i < l.length) : ix k i = ix l i := by
  obtain ⟨t, rfl⟩ := h
  exact ix_app h0 h1
section
variable {n : Nat} {A : Int → Int → Prop} {s : Int}
theorem BI.visit {out q : List Int} {i w : Int} (h : BI n A s out q i) (hn : n ≤ 1000) (hA : ∀ u v, A u v → 0 ≤ v ∧ v < (n : Int)) (h0 : 0 ≤ i) (h1 : i < q.length) (ha : A (ix q i) w) (y : List Int × List Int) (e : digraph_distances_1 w (wr (ix out (ix q i) + 1)) out q = y) :
    BI n A s y.1 y.2 i ∧ q <+: y.2 ∧ (∀ v ∈ q, ix y.1 v = ix out v) ∧ 0 ≤ ix y.1 w ∧ ix y.1 w ≤ ix y.1 (ix q i) + 1 := by
  obtain ⟨w0, w1⟩ := hA _ _ ha
  have hv := h.qi.at h0 h1
  have hql := h.qi.qlen
  have ew : wr (ix out (ix q i) + 1) = ix out (ix q i) + 1 := wr_of (by omega) (by omega)
  rw [ew] at e
  obtain ⟨hq, hp, hs⟩ := h.qi.visit (d := ix out (ix q i) + 1) w0 w1 (by omega) (by omega) y e
  have hvm : ix q i ∈ q := ix_mem h0 h1
  subst e
  unfold digraph_distances_1 at *
  split
  · rename_i hc
    simp only [hc, if_true] at hq hp hs
    simp only [decide_eq_true_eq] at hc
    have hnew : w ∉ q := fun hm => by have := (h.qi.mem w w0 w1).1 hm; omega
    have hol := h.qi.len
    have ho : ix (out.set w.toNat (ix out (ix q i) + 1)) w = ix out (ix q i) + 1 := by rw [ix_set w0 (by omega) w0, if_pos rfl]
    have hne : ∀ u : Int, 0 ≤ ix out u → 0 ≤ u → u < n → ix (out.set w.toNat (ix out (ix q i) + 1)) u = ix out u := fun u hu u0 u1 => by
      rw [ix_set u0 (by omega) w0, if_neg (fun e => by rw [e] at hu; omega)]
    simp only at hs ⊢
    refine ⟨⟨hq, ⟨List.mem_append_left _ h.s0.1, by rw [hs s h.s0.1]; exact h.s0.2⟩, fun u hu => ?_, ?_, fun hi u hu => ?_, fun j j0 j1 j2 x hx => ?_⟩, hp, hs, ?_, ?_⟩
    · rcases List.mem_append.1 hu with hu | hu
      · rw [hs u hu]; exact h.wk u hu
      · simp only [List.mem_singleton] at hu
        subst hu
        rw [ho, show (ix out (ix q i) + 1).toNat = (ix out (ix q i)).toNat + 1 by omega]
        exact ⟨ix q i, h.wk _ hvm, ha⟩
    · rw [List.pairwise_append]
      refine ⟨?_, by simp, fun a ha' b hb => ?_⟩
      · refine List.Pairwise.imp_of_mem ?_ h.asc
        intro a b ha' hb hab
        rw [hs a ha', hs b hb]
        exact hab
      · simp only [List.mem_singleton] at hb
        subst hb
        rw [ho, hs a ha']
        exact h.top h1 a ha'
    · rw [ix_app h0 h1, hs _ hvm]
      rcases List.mem_append.1 hu with hu | hu
      · rw [hs u hu]; exact h.top h1 u hu
      · simp only [List.mem_singleton] at hu
        subst hu
        rw [ho]; exact Int.le_refl _
    · have jq : j < q.length := by omega
      rw [ix_app j0 jq] at hx ⊢
      obtain ⟨c0, c1⟩ := h.cl j j0 j1 jq x hx
      obtain ⟨x0, x1⟩ := hA _ _ hx
      rw [hne x c0 x0 x1, hs _ (ix_mem j0 jq)]
      exact ⟨c0, c1⟩
    · rw [ho]; omega
    · rw [ho, hs _ hvm]; exact Int.le_refl _
  · rename_i hc
    simp only [decide_eq_true_eq] at hc
    refine ⟨h, List.prefix_refl _, fun _ _ => rfl, by show 0 ≤ ix out w; omega, ?_⟩
    exact h.top h1 w ((h.qi.mem w w0 w1).2 (by omega))
theorem BI.next {out q : List Int} {i : Int} (h : BI n A s out q i) (h0 : 0 ≤ i) (h1 : i < q.length) (hr : ∀ w, A (ix q i) w → 0 ≤ ix out w ∧ ix out w ≤ ix out (ix q i) + 1) : BI n A s out q (i + 1) := by
  refine ⟨h.qi, h.s0, h.wk, h.asc, fun hi v hv => ?_, fun j j0 j1 j2 w hw => ?_⟩
  · have h2 := h.top h1 v hv
    have h3 : ix out (ix q i) ≤ ix out (ix q (i + 1)) := by
      have := List.pairwise_iff_getElem.1 h.asc i.toNat (i + 1).toNat (by omega) (by omega) (by omega)
      rw [ix_lt h0 h1, ix_lt (by omega) hi]
      exact this
    omega
  · by_cases e : j = i
    · subst e; exact hr w hw
    · exact h.cl j j0 (by omega) j2 w hw
end
theorem bfs_L3 (g : List (List Int)) (hn : g.length ≤ 1000) (s i : Int) (q0 : List Int) (h0 : 0 ≤ i) (h1 : i < q0.length) (hv : 0 ≤ ix q0 i ∧ ix q0 i < g.length) (K : List Int → List Int → List Int) :
    ∀ (m : Nat) (j : Int) (q out : List Int), m = Int.toNat (((ix g (ix q0 i)).length : Int) - j) → 0 ≤ j → BI g.length (Ed g) s out q i → q0 <+: q →
      (∀ w ∈ (ix g (ix q0 i)).take j.toNat, 0 ≤ w → w < g.length → 0 ≤ ix out w ∧ ix out w ≤ ix out (ix q0 i) + 1) →
      ∃ q' out', digraph_distances_L3 g i q0 K m j q out = K q' out' ∧ BI g.length (Ed g) s out' q' (i + 1) ∧ q0 <+: q'
  | 0, j, q, out, hm, j0, hB, hp, hr => by
    have hl := hp.length_le
    refine ⟨q, out, by rw [digraph_distances_L3], hB.next h0 (by omega) fun w hw => ?_, hp⟩
    rw [ix_pre hp h0 h1] at hw ⊢
    rw [List.take_of_length_le (by omega)] at hr
    exact hr w hw.2.2.2.2 hw.2.2.1 hw.2.2.2.1
  | m + 1, j, q, out, hm, j0, hB, hp, hr => by
    have hl := hp.length_le
    have hj : j < (ix g (ix q0 i)).length := by omega
    have ei := ix_pre hp h0 h1
    rw [digraph_distances_L3]
    simp only [LET]
    by_cases hc : digraph_node g (ix (ix g (ix q0 i)) j) = true
    · rw [if_pos hc]
      obtain ⟨w0, w1⟩ := node_use rfl hc
      have ha : Ed g (ix q0 i) (ix (ix g (ix q0 i)) j) := ⟨hv.1, hv.2, w0, w1, ix_mem j0 hj⟩
      obtain ⟨y, hy⟩ : ∃ y, digraph_distances_1 (ix (ix g (ix q0 i)) j) (wr (ix out (ix q0 i) + 1)) out q = y := ⟨_, rfl⟩
      rw [hy]
      have hV := hB.visit hn (fun u v h => ⟨h.2.2.1, h.2.2.2.1⟩) h0 (by omega) (by rw [ei]; exact ha) y (by rw [ei]; exact hy)
      rw [ei] at hV
      obtain ⟨hB', hp', hs', hw'⟩ := hV
      refine bfs_L3 g hn s i q0 h0 h1 hv K m (j + 1) y.2 y.1 (by omega) (by omega) hB' (hp.trans hp') fun w hw x0 x1 => ?_
      have hvm : ix q0 i ∈ q := hp.subset (ix_mem h0 h1)
      rcases (mem_take_succ j0 hj w).1 hw with hw | rfl
      · obtain ⟨a, b⟩ := hr w hw x0 x1
        rw [hs' _ hvm, hs' w ((hB.qi.mem w x0 x1).2 a)]
        exact ⟨a, b⟩
      · exact hw'
    · rw [if_neg hc]
      refine bfs_L3 g hn s i q0 h0 h1 hv K m (j + 1) q out (by omega) (by omega) hB hp fun w hw x0 x1 => ?_
      rcases (mem_take_succ j0 hj w).1 hw with hw | rfl
      · exact hr w hw x0 x1
      · exfalso
        apply hc
        unfold digraph_node
        simp only [Bool.and_eq_true, decide_eq_true_eq]
        exact ⟨x0, x1⟩
theorem bfs_L2 (g : List (List Int)) (hn : g.length ≤ 1000) (s : Int) (K : List Int → List Int → List Int) : ∀ (m : Nat) (i : Int) (q out : List Int), (g.length : Int) - i ≤ m → 0 ≤ i → i ≤ q.length → BI g.length (Ed g) s out q i →
    ∃ q' out', digraph_distances_L2 g K m i q out = K q' out' ∧ BI g.length (Ed g) s out' q' q'.length
  | 0, i, q, out, hm, h0, h1, hB => by
    have := hB.qi.qlen
    have e : i = q.length := by omega
    exact ⟨q, out, by rw [digraph_distances_L2], by rw [← e]; exact hB⟩
  | m + 1, i, q, out, hm, h0, h1, hB => by
    rw [digraph_distances_L2]
    by_cases hc : i < (q.length : Int)
    · rw [if_pos (by simpa using hc)]
      have hv := hB.qi.at h0 hc
      have hql := hB.qi.qlen
      obtain ⟨q', out', e, hB', hp⟩ := bfs_L3 g hn s i q h0 hc ⟨hv.1, hv.2.1⟩ (fun z z' => digraph_distances_L2 g K m (wr (i + 1)) z z') _ 0 q out rfl (Int.le_refl _) hB (List.prefix_refl _) (by simp)
      rw [e, wr_of (n := i + 1) (by omega) (by omega)]
      have := hp.length_le
      exact bfs_L2 g hn s K m (i + 1) q' out' (by omega) (by omega) (by omega) hB'
    · rw [if_neg (by simpa using hc)]
      have e : i = q.length := by omega
      exact ⟨q, out, rfl, by rw [← e]; exact hB⟩
theorem dfill_L1 (K : List Int → List Int) : ∀ (m : Nat) (i : Int) (z : List Int), m = Int.toNat ((z.length : Int) - i) → 0 ≤ i → i ≤ z.length → NB z i → ∃ z', digraph_distances_L1 K m i z = K z' ∧ z'.length = z.length ∧ NB z' z.length
  | 0, i, z, hm, h0, h1, h => ⟨z, by rw [digraph_distances_L1], rfl, h.mono (by omega)⟩
  | m + 1, i, z, hm, h0, h1, h => by
    rw [digraph_distances_L1]
    obtain ⟨z', a, b, c⟩ := dfill_L1 K m (i + 1) (z.set i.toNat (-1)) (by rw [List.length_set]; omega) (by omega) (by rw [List.length_set]; omega) (h.next h0 (by omega))
    rw [List.length_set] at b c
    exact ⟨z', a, b, c⟩
theorem no_wk {A : Int → Int → Prop} {s : Int} (hA : ∀ u v, A u v → u ≠ s) : ∀ (k : Nat) (v : Int), v ≠ s → ¬ Wk A s k v
  | 0, v, h, e => h e
  | k + 1, v, h, ⟨u, hu, ha⟩ => no_wk hA k u (hA u v ha) hu
theorem dist_ds (g : List (List Int)) (s : Int) (hn : g.length ≤ 1000) : Ds g.length (Ed g) s (digraph_distances g s) := by
  unfold digraph_distances
  obtain ⟨z, e, hl, hb⟩ := dfill_L1 (fun (zE102_110 : List Int) =>
      LET (digraph_node g s) fun y111 =>
      if (!y111) then
        zE102_110
      else
      digraph_distances_L2 g (fun (zE115_141 : List Int) (zE102_141 : List Int) =>
          zE102_141) (Int.toNat ((g.length : Int) - 0)) 0 ([s] : List Int) (zE102_110.set (s).toNat 0)) (Int.toNat (((List.replicate g.length (0 : Int)).length : Int) - 0)) 0 (List.replicate g.length (0 : Int)) rfl (Int.le_refl _) (by omega) NB.nil
  rw [e]
  rw [List.length_replicate] at hl hb
  simp only [LET]
  by_cases hc : digraph_node g s = true
  · rw [hc]
    simp only [Bool.not_true, Bool.false_eq_true, if_false]
    obtain ⟨s0, s1⟩ := node_use rfl hc
    have hq := qi_new hl hb s0 s1
    have hss : ix (z.set s.toNat 0) s = 0 := by rw [ix_set s0 (by omega) s0, if_pos rfl]
    have hB : BI g.length (Ed g) s (z.set s.toNat 0) [s] 0 := ⟨hq, ⟨by simp, hss⟩, fun v hv => by
        simp only [List.mem_singleton] at hv
        subst hv
        rw [hss]
        rfl, by simp, fun _ v hv => by
        simp only [List.mem_singleton] at hv
        subst hv
        show ix _ v ≤ ix _ v + 1
        omega, fun j j0 j1 => by omega⟩
    obtain ⟨q', out', e2, hB'⟩ := bfs_L2 g hn s (fun (zE115_141 : List Int) (zE102_141 : List Int) => zE102_141) (Int.toNat ((g.length : Int) - 0)) 0 [s] (z.set s.toNat 0) (by omega) (Int.le_refl _) (by simp) hB
    rw [e2]
    have reach : ∀ (k : Nat) (v : Int), Wk (Ed g) s k v → v ∈ q' ∧ ix out' v ≤ k := by
      intro k
      induction k with
      | zero =>
        intro v hv
        have ev : v = s := hv
        subst ev
        exact ⟨hB'.s0.1, by rw [hB'.s0.2]; exact Int.le_refl _⟩
      | succ k ih =>
        rintro v ⟨u, hu, ha⟩
        obtain ⟨a, b⟩ := ih u hu
        obtain ⟨j, j0, j1, rfl⟩ := mem_ix a
        obtain ⟨c, d⟩ := hB'.cl j j0 j1 j1 v ha
        exact ⟨(hB'.qi.mem v ha.2.2.1 ha.2.2.2.1).2 c, by omega⟩
    refine ⟨hB'.qi.len, fun v v0 v1 => ?_⟩
    by_cases hv : 0 ≤ ix out' v
    · right
      have hm := (hB'.qi.mem v v0 v1).2 hv
      have hw := hB'.wk v hm
      have hlt := hB'.qi.lt v v0 v1
      have := hB'.qi.qlen
      exact ⟨(ix out' v).toNat, by omega, ⟨hw, fun j hj => by have := (reach j v hj).2; omega⟩, by omega⟩
    · left
      have hlt := hB'.qi.lt v v0 v1
      exact ⟨by omega, fun k hk => hv ((hB'.qi.mem v v0 v1).1 (reach k v hk).1)⟩
  · rw [Bool.not_eq_true] at hc
    rw [hc]
    simp only [Bool.not_false, if_true]
    have hs : ¬ (0 ≤ s ∧ s < g.length) := fun h => by
      unfold digraph_node at hc
      simp [h.1, h.2] at hc
    refine ⟨hl, fun v v0 v1 => .inl ⟨hb v v0 v1, fun k => no_wk (fun u w ha e => hs ?_) k v (fun e => hs ?_)⟩⟩
    · subst e; exact ⟨ha.1, ha.2.1⟩
    · subst e; exact ⟨v0, v1⟩
theorem Gd.self {n : Nat} {g : List (List Int)} (h : Gd n g) : Gd g.length g := by have e := h.len; rw [e]; exact h
theorem rev_gd {g y : List (List Int)} (hs : Sm g) (h : digraph_Reverse g = y) : Gd g.length y := by subst h; exact (rev_cl g).gd hs.n
theorem dist_use {g : List (List Int)} {s : Int} {y : List Int} (hn : g.length ≤ 1000) (h : digraph_distances g s = y) : y.length = g.length ∧ WB y 1000 := by
  subst h
  have := dist_ds g s hn
  exact ⟨this.len, this.wb hn⟩
theorem Gd.sm {n : Nat} {g : List (List Int)} (h : Gd n g) (hn : n ≤ 24) : Sm g := ⟨by rw [h.len]; exact hn, h.r⟩
theorem sm_of {g : List (List Int)} (h : (decide (g.length ≤ 24) && g.all fun r => decide (r.length ≤ 40)) = true) : Sm g := by
  simp only [Bool.and_eq_true, decide_eq_true_eq, List.all_eq_true] at h
  refine ⟨h.1, fun k k0 k1 => ?_⟩
  have := h.2 _ (ix_mem k0 k1)
  omega
theorem large_L1 (g : List (List Int)) (K : Unit → Bool) : ∀ (m : Nat) (i : Int), m = Int.toNat ((g.length : Int) - i) → 0 ≤ i → law06_large_L1 g K m i = false → ∀ k : Int, i ≤ k → k < g.length → ((ix g k).length : Int) ≤ 40
  | 0, i, hm, h0, h, k, k0, k1 => by omega
  | m + 1, i, hm, h0, h, k, k0, k1 => by
    rw [law06_large_L1] at h
    by_cases hc : 40 < ((ix g i).length : Int)
    · rw [if_pos (by simpa using hc)] at h; cases h
    · rw [if_neg (by simpa using hc)] at h
      by_cases e : k = i
      · rw [e]; omega
      · exact large_L1 g K m (i + 1) (by omega) (by omega) h k (by omega) k1
theorem large_sm {g : List (List Int)} {y : Bool} (h : law06_large g = y) : y = false → Sm g := fun e => by
  subst h
  unfold law06_large at e
  by_cases hc : 24 < (g.length : Int)
  · rw [if_pos (by simpa using hc)] at e; cases e
  · rw [if_neg (by simpa using hc)] at e
    exact ⟨by omega, fun k k0 k1 => large_L1 g _ _ 0 rfl (Int.le_refl _) e k k0 k1⟩
theorem rrev_gd {g y : List (List Int)} (hs : Sm g) (h : ref06_Reverse g = y) : Gd g.length y := by subst h; exact (rrev_cl g).gd hs.n
/-- The next node to place. -/
structure IsNx (n : Nat) (A : Int → Int → Prop) (o : List Int) (w : Int) : Prop where
  h0 : 0 ≤ w
  h1 : w < n
  new : w ∉ o
  pre : ∀ v, A v w → v ∈ o
  min : ∀ u, 0 ≤ u → u < w → u ∉ o → ∃ v, A v u ∧ v ∉ o
inductive Gr (n : Nat) (A : Int → Int → Prop) : List Int → Prop
  | nil : Gr n A []
  | snoc {o : List Int} {w : Int} (h : Gr n A o) (hw : IsNx n A o w) : Gr n A (o ++ [w])
section
variable {n : Nat} {A : Int → Int → Prop}
theorem IsNx.uniq {o : List Int} {w u : Int} (h : IsNx n A o w) (k : IsNx n A o u) : w = u := by
  rcases Int.lt_trichotomy w u with q | q | q
  · obtain ⟨v, a, b⟩ := k.min w h.h0 q h.new
    exact absurd (h.pre v a) b
  · exact q
  · obtain ⟨v, a, b⟩ := h.min u k.h0 q k.new
    exact absurd (k.pre v a) b
theorem Gr.nd {o : List Int} (h : Gr n A o) : o.Nodup := by
  induction h with
  | nil => exact List.nodup_nil
  | snoc h hw ih => exact (List.perm_append_singleton _ _).nodup_iff.2 (List.nodup_cons.2 ⟨hw.new, ih⟩)
theorem Gr.rg {o : List Int} (h : Gr n A o) : ∀ v ∈ o, 0 ≤ v ∧ v < (n : Int) := by
  induction h with
  | nil => intro v hv; cases hv
  | snoc h hw ih =>
    intro v hv
    rcases List.mem_append.1 hv with hv | hv
    · exact ih v hv
    · simp only [List.mem_singleton] at hv; subst hv; exact ⟨hw.h0, hw.h1⟩
theorem Gr.len {o : List Int} (h : Gr n A o) : o.length ≤ n := nd_len n o h.nd h.rg
theorem Gr.clo {o : List Int} (h : Gr n A o) : ∀ w ∈ o, ∀ v, A v w → v ∈ o := by
  induction h with
  | nil => intro v hv; cases hv
  | snoc h hw ih =>
    intro v hv u ha
    rcases List.mem_append.1 hv with hv | hv
    · exact List.mem_append_left _ (ih v hv u ha)
    · simp only [List.mem_singleton] at hv; subst hv; exact List.mem_append_left _ (hw.pre u ha)
theorem snoc_pre {o p : List Int} {w x : Int} (h : p ++ [x] <+: o ++ [w]) : (p ++ [x] <+: o) ∨ (p = o ∧ x = w) := by
  obtain ⟨t, ht⟩ := h
  rcases List.eq_nil_or_concat t with rfl | ⟨t', y, rfl⟩
  · right
    rw [List.append_nil] at ht
    exact ⟨(List.append_inj' ht rfl).1, by have := (List.append_inj' ht rfl).2; simpa using this⟩
  · left
    rw [List.concat_eq_append, ← List.append_assoc] at ht
    exact ⟨t', (List.append_inj' ht rfl).1⟩
theorem Gr.at {o : List Int} (h : Gr n A o) : ∀ {p : List Int} {x : Int}, p ++ [x] <+: o → IsNx n A p x := by
  induction h with
  | nil => intro p x hp; have := hp.length_le; simp at this
  | snoc h hw ih =>
    intro p x hp
    rcases snoc_pre hp with q | ⟨rfl, rfl⟩
    · exact ih q
    · exact hw
theorem Gr.det {o : List Int} (h : Gr n A o) : ∀ {q : List Int}, Gr n A q → o.length ≤ q.length → o <+: q := by
  induction h with
  | nil => intro q _ _; exact List.nil_prefix
  | @snoc o w h hw ih =>
    intro q hq hl
    rw [List.length_append, List.length_singleton] at hl
    obtain ⟨t, rfl⟩ := ih hq (by omega)
    cases t with
    | nil => simp only [List.append_nil] at hl; omega
    | cons x t =>
      have := hq.at (p := o) (x := x) ⟨t, by simp⟩
      have e := hw.uniq this
      subst e
      exact ⟨t, by simp⟩
theorem Gr.uniq {o q : List Int} (h : Gr n A o) (k : Gr n A q) (ho : ∀ w, ¬ IsNx n A o w) (hq : ∀ w, ¬ IsNx n A q w) : o = q := by
  have key : ∀ {o q : List Int}, Gr n A o → Gr n A q → (∀ w, ¬ IsNx n A o w) → o.length ≤ q.length → o = q := by
    intro o q h k ho hl
    obtain ⟨t, rfl⟩ := h.det k hl
    cases t with
    | nil => simp
    | cons x t => exact absurd (k.at (p := o) (x := x) ⟨t, by simp⟩) (ho x)
  rcases Nat.le_total o.length q.length with hl | hl
  · exact key h k ho hl
  · exact (key k h hq hl).symm
end
/-! Putting in where it belongs -/
theorem less_eq (x y : Int) : cmp_Less_int x y = decide (x < y) := by
  unfold cmp_Less_int
  simp [cmp_isNaN_int, LET]
theorem bs_at (r : List Int) (w : Int) (hr : r.Pairwise (fun a b => a < b)) (K : Int → Int × Bool) (hK : ∀ i, (K i).1 = i) (hl : r.length ≤ 1000000) : ∀ (m : Nat) (a b : Int), 0 ≤ a → a ≤ b → b ≤ r.length → b - a ≤ m →
    (∀ i : Int, 0 ≤ i → i < a → ix r i < w) → (∀ i : Int, b ≤ i → i < r.length → w ≤ ix r i) →
    ∃ p : Int, (slices_BinarySearch__int_int__L1 r w K m a b).1 = p ∧ 0 ≤ p ∧ p ≤ r.length ∧ (∀ i : Int, 0 ≤ i → i < p → ix r i < w) ∧ (∀ i : Int, p ≤ i → i < r.length → w ≤ ix r i)
  | 0, a, b, h0, h1, h2, h3, ha, hb => ⟨a, by rw [slices_BinarySearch__int_int__L1, hK], h0, by omega, ha, fun i q s => hb i (by omega) s⟩
  | m + 1, a, b, h0, h1, h2, h3, ha, hb => by
    have hmono : ∀ i j : Int, 0 ≤ i → i < j → j < r.length → ix r i < ix r j := fun i j i0 ij jl => by
      have := List.pairwise_iff_getElem.1 hr i.toNat j.toNat (by omega) (by omega) (by omega)
      rw [ix_lt i0 (by omega), ix_lt (by omega) jl]
      exact this
    rw [slices_BinarySearch__int_int__L1]
    by_cases hc : a < b
    · rw [if_pos (by simpa using hc)]
      obtain ⟨m0, m1, m2⟩ := bmid h0 hc (by omega)
      simp only [LET, less_eq, decide_eq_true_eq]
      rw [m2]
      generalize wr (((BitVec.ofInt 64 (wr (a + b))) >>> (1#64).toNat).toNat : Int) = mid at m0 m1
      by_cases hx : ix r mid < w
      · rw [if_pos hx]
        exact bs_at r w hr K hK hl m (mid + 1) b (by omega) (by omega) h2 (by omega) (fun i q s => by
          by_cases e : i = mid
          · rw [e]; exact hx
          · have := hmono i mid q (by omega) (by omega); omega) hb
      · rw [if_neg hx]
        exact bs_at r w hr K hK hl m a mid h0 (by omega) (by omega) (by omega) ha (fun i q s => by
          by_cases e : i = mid
          · rw [e]; omega
          · have := hmono mid i (by omega) (by omega) s; omega)
    · rw [if_neg (by simpa using hc), hK]
      exact ⟨a, rfl, h0, by omega, ha, fun i q s => hb i (by omega) s⟩
theorem ord1_asc {w : Int} {r : List Int} (hr : r.Pairwise (fun a b => a < b)) (hw : w ∉ r) (hl : r.length ≤ 1000000) : (digraph_order_1 w r).Pairwise (fun a b => a < b) := by
  unfold digraph_order_1 slices_Insert__int_int_ slices_BinarySearch__int_int_
  simp only [LET]
  obtain ⟨p, e, p0, p1, pl, ph⟩ := bs_at r w hr (fun x7_105 => (x7_105, ((decide (x7_105 < (r.length : Int))) && ((decide ((ix r x7_105) = w)) || ((slices_isNaN_int (ix r x7_105)) && (slices_isNaN_int w)))))) (fun i => rfl) hl (Int.toNat ((r.length : Int) - 0)) 0 (r.length : Int) (Int.le_refl _) (by omega) (Int.le_refl _) (by omega) (fun i q s => by omega) (fun i q s => by omega)
  rw [e]
  have hlo : ∀ x ∈ r.take p.toNat, x < w := fun x hx => by
    obtain ⟨j, hj, rfl⟩ := List.getElem_of_mem hx
    rw [List.length_take] at hj
    rw [List.getElem_take]
    have := pl (j : Int) (by omega) (by omega)
    rwa [ix_nat (by omega)] at this
  have hhi : ∀ x ∈ r.drop p.toNat, w < x := fun x hx => by
    have hm := List.mem_of_mem_drop hx
    obtain ⟨j, hj, rfl⟩ := List.getElem_of_mem hx
    rw [List.length_drop] at hj
    rw [List.getElem_drop] at hm ⊢
    have h2 := ph ((p.toNat + j : Nat) : Int) (by omega) (by omega)
    rw [ix_nat (by omega)] at h2
    rcases Int.lt_or_eq_of_le h2 with q | q
    · exact q
    · exact absurd (q ▸ hm) hw
  rw [List.pairwise_append, List.pairwise_append]
  refine ⟨⟨hr.sublist (List.take_sublist _ _), by simp, fun a ha b hb => ?_⟩, hr.sublist (List.drop_sublist _ _), fun a ha b hb => ?_⟩
  · simp only [List.mem_singleton] at hb
    subst hb
    exact hlo a ha
  · have hb' := hhi b hb
    rcases List.mem_append.1 ha with ha | ha
    · have := hlo a ha; omega
    · simp only [List.mem_singleton] at ha; subst ha; exact hb'
theorem ord1_mem {w u : Int} {r : List Int} : u ∈ digraph_order_1 w r ↔ u = w ∨ u ∈ r := by rw [(ord1_perm w r).mem_iff, List.mem_cons]
theorem ord1_len {w : Int} {r : List Int} : (digraph_order_1 w r).length = r.length + 1 := by rw [(ord1_perm w r).length_eq, List.length_cons]
/-! The loops -/
def nds (n : Nat) : List Int := (List.range n).map fun k : Nat => (k : Int)
theorem nds_mem {n : Nat} {v : Int} : v ∈ nds n ↔ 0 ≤ v ∧ v < n := by
  unfold nds
  rw [List.mem_map]
  constructor
  · rintro ⟨k, hk, rfl⟩
    rw [List.mem_range] at hk
    omega
  · rintro ⟨h0, h1⟩
    exact ⟨v.toNat, by rw [List.mem_range]; omega, by omega⟩
theorem nds_succ (n : Nat) : nds (n + 1) = nds n ++ [(n : Int)] := by simp [nds, List.range_succ]
theorem nds_nd (n : Nat) : (nds n).Nodup := by
  unfold nds
  unfold List.Nodup
  rw [List.pairwise_map]
  exact (List.nodup_range (n := n)).imp fun h e => h (by omega)
section
variable {n : Nat} {c : List (List Int)} {A : Int → Int → Prop}
theorem ord_L2 (h : Cl n c A) (v : Int) (v0 : 0 ≤ v) (v1 : v < n) (K : List Int → List Int) : ∀ (m : Nat) (i : Int) (z : List Int) (b : Int), m = Int.toNat (((ix c v).length : Int) - i) → 0 ≤ i → i ≤ (ix c v).length → z.length = n → WB z b → b + m ≤ 1000000 →
    ∃ z', digraph_order_L2 c v K m i z = K z' ∧ z'.length = n ∧ WB z' (b + m) ∧ ∀ w : Int, 0 ≤ w → w < n → ix z' w = ix z w + (((ix c v).drop i.toNat).count w : Int)
  | 0, i, z, b, hm, h0, h1, hz, hb, hm6 => ⟨z, by rw [digraph_order_L2], hz, by simpa using hb, fun w w0 w1 => by rw [List.drop_eq_nil_of_le (by omega)]; simp⟩
  | m + 1, i, z, b, hm, h0, h1, hz, hb, hm6 => by
    have hi : i < (ix c v).length := by omega
    obtain ⟨_, _, w0, w1⟩ := h.rg v _ ((h.mem v _ v0 v1).1 (ix_mem h0 hi))
    have hbw := hb (ix (ix c v) i) w0 (by omega)
    rw [digraph_order_L2]
    obtain ⟨z', e, hl, hb', hs⟩ := ord_L2 h v v0 v1 K m (i + 1) _ (b + 1) (by omega) (by omega) (by omega) (by rw [List.length_set]; exact hz) (hb.inc (by omega) w0 (by omega)) (by omega)
    refine ⟨z', e, hl, hb'.mono (by omega), fun w q r => ?_⟩
    rw [hs w q r, ix_set q (by omega) w0, drop_ix h0 hi, List.count_cons]
    split
    · rename_i e; subst e
      rw [wr_of (by omega) (by omega)]
      simp; omega
    · rename_i e
      have : ¬ (ix (ix c v) i == w) = true := by simpa using fun h => e h.symm
      rw [if_neg this]
      omega
theorem ord_L1 (h : Cl n c A) (hn : n ≤ 24) (K : List Int → List Int) : ∀ (m : Nat) (i : Int) (z : List Int), m = Int.toNat ((c.length : Int) - i) → 0 ≤ i → i ≤ n → z.length = n → WB z (24 * i) → (∀ w : Int, 0 ≤ w → w < n → ix z w = (((nds i.toNat).flatMap (ix c)).count w : Int)) →
    ∃ z', digraph_order_L1 c K m i z = K z' ∧ z'.length = n ∧ WB z' 600 ∧ ∀ w : Int, 0 ≤ w → w < n → ix z' w = (((nds n).flatMap (ix c)).count w : Int)
  | 0, i, z, hm, h0, h1, hz, hb, hs => by
    have hl := h.len
    have e : i.toNat = n := by omega
    exact ⟨z, by rw [digraph_order_L1], hz, hb.mono (by omega), by rw [e] at hs; exact hs⟩
  | m + 1, i, z, hm, h0, h1, hz, hb, hs => by
    have hl := h.len
    rw [digraph_order_L1]
    have hrow := h.row h0 (by omega)
    obtain ⟨z', e, hl', hb', hs'⟩ := ord_L2 h i h0 (by omega) (fun z => digraph_order_L1 c K m (i + 1) z) (Int.toNat (((ix c i).length : Int) - 0)) 0 z (24 * i) rfl (Int.le_refl _) (by omega) hz hb (by omega)
    rw [e]
    refine ord_L1 h hn K m (i + 1) z' (by omega) (by omega) (by omega) hl' (hb'.mono (by omega)) fun w q r => ?_
    rw [hs' w q r, hs w q r, show (i + 1).toNat = i.toNat + 1 by omega, nds_succ, List.flatMap_append, List.count_append]
    simp only [Int.toNat_zero, List.drop_zero, List.flatMap_cons, List.flatMap_nil, List.append_nil, Int.natCast_add]
    rw [show ((i.toNat : Nat) : Int) = i by omega]
theorem ord_L3 (W : List Int) (K : List Int → List Int) (hW : W.length ≤ 1000) : ∀ (m : Nat) (i : Int) (r : List Int), m = Int.toNat ((W.length : Int) - i) → 0 ≤ i → i ≤ W.length → r.Pairwise (fun a b => a < b) → (∀ u, u ∈ r ↔ 0 ≤ u ∧ u < i ∧ ix W u = 0) →
    ∃ r', digraph_order_L3 W K m i r = K r' ∧ r'.Pairwise (fun a b => a < b) ∧ ∀ u, u ∈ r' ↔ 0 ≤ u ∧ u < W.length ∧ ix W u = 0
  | 0, i, r, hm, h0, h1, hp, hq => ⟨r, by rw [digraph_order_L3], hp, fun u => by rw [hq, show i = (W.length : Int) by omega]⟩
  | m + 1, i, r, hm, h0, h1, hp, hq => by
    rw [digraph_order_L3]
    by_cases hc : ix W i = 0
    · rw [if_pos (by simpa using hc)]
      simp only [LET]
      have hl := nd_len i.toNat r (asc_nd hp) fun v hv => by have := (hq v).1 hv; omega
      refine ord_L3 W K hW m (i + 1) _ (by omega) (by omega) (by omega) (ord1_asc hp (fun hm => by have := (hq i).1 hm; omega) (by omega)) fun u => ?_
      rw [ord1_mem, hq]
      constructor
      · rintro (rfl | ⟨a, b, d⟩)
        · exact ⟨h0, by omega, hc⟩
        · exact ⟨a, by omega, d⟩
      · rintro ⟨a, b, d⟩
        by_cases e : u = i
        · exact .inl e
        · exact .inr ⟨a, by omega, d⟩
    · rw [if_neg (by simpa using hc)]
      refine ord_L3 W K hW m (i + 1) r (by omega) (by omega) (by omega) hp fun u => ?_
      rw [hq]
      constructor
      · rintro ⟨a, b, d⟩; exact ⟨a, by omega, d⟩
      · rintro ⟨a, b, d⟩
        refine ⟨a, ?_, d⟩
        have : u ≠ i := fun e => hc (e ▸ d)
        omega
theorem count_take_succ {l : List Int} {i : Int} (h0 : 0 ≤ i) (h1 : i < l.length) (w : Int) : (l.take (i + 1).toNat).count w = (l.take i.toNat).count w + if ix l i = w then 1 else 0 := by
  rw [show (i + 1).toNat = i.toNat + 1 by omega, List.take_succ_eq_append_getElem (by omega), List.count_append, ix_lt h0 h1, List.count_singleton]
  simp
theorem ord_L5 (h : Cl n c A) (hn : n ≤ 24) (R0 r0 W0 : List Int) (hv : 0 ≤ ix R0 0 ∧ ix R0 0 < n) (hW0 : WB W0 1000) (hr0 : ∀ u ∈ r0, 0 ≤ u ∧ u < n ∧ ix W0 u = 0) (K : List Int → List Int → List Int) :
    ∀ (m : Nat) (j : Int) (r W : List Int), m = Int.toNat (((ix c (ix R0 0)).length : Int) - j) → 0 ≤ j → j ≤ (ix c (ix R0 0)).length → W.length = n → W0.length = n →
      (∀ u : Int, 0 ≤ u → u < n → ix W u = ix W0 u - (((ix c (ix R0 0)).take j.toNat).count u : Int)) → r.Pairwise (fun a b => a < b) →
      (∀ u, u ∈ r ↔ u ∈ r0 ∨ (u ∈ (ix c (ix R0 0)).take j.toNat ∧ ix W u = 0)) →
      ∃ r' W', digraph_order_L5 c R0 K m j r W = K r' W' ∧ W'.length = n ∧ (∀ u : Int, 0 ≤ u → u < n → ix W' u = ix W0 u - ((ix c (ix R0 0)).count u : Int)) ∧ r'.Pairwise (fun a b => a < b) ∧ (∀ u, u ∈ r' ↔ u ∈ r0 ∨ (u ∈ ix c (ix R0 0) ∧ ix W' u = 0))
  | 0, j, r, W, hm, h0, h1, hW, hW0', hs, hp, hq => by
    rw [List.take_of_length_le (by omega)] at hs hq
    exact ⟨r, W, by rw [digraph_order_L5], hW, hs, hp, hq⟩
  | m + 1, j, r, W, hm, h0, h1, hW, hW0', hs, hp, hq => by
    have hj : j < (ix c (ix R0 0)).length := by omega
    obtain ⟨_, _, w0, w1⟩ := h.rg _ _ ((h.mem (ix R0 0) _ hv.1 hv.2).1 (ix_mem h0 hj))
    have hrow := h.row hv.1 hv.2
    have hasc := h.asc _ hv.1 hv.2
    have hnew : ix (ix c (ix R0 0)) j ∉ (ix c (ix R0 0)).take j.toNat := fun q => by
      obtain ⟨k, hk, e⟩ := List.getElem_of_mem q
      rw [List.length_take] at hk
      rw [List.getElem_take, ix_lt h0 hj] at e
      have := List.pairwise_iff_getElem.1 hasc k j.toNat (by omega) (by omega) (by omega)
      omega
    have hb := hW0 _ w0 (by omega)
    have hcnt : ((ix c (ix R0 0)).take j.toNat).count (ix (ix c (ix R0 0)) j) = 0 := List.count_eq_zero.2 hnew
    have hWw := hs _ w0 w1
    rw [hcnt] at hWw
    rw [digraph_order_L5]
    have ew : wr (ix W (ix (ix c (ix R0 0)) j) - 1) = ix W (ix (ix c (ix R0 0)) j) - 1 := wr_of (by omega) (by omega)
    rw [ew]
    have hset : ∀ u : Int, 0 ≤ u → u < n → ix (W.set (ix (ix c (ix R0 0)) j).toNat (ix W (ix (ix c (ix R0 0)) j) - 1)) u = ix W0 u - (((ix c (ix R0 0)).take (j + 1).toNat).count u : Int) := fun u u0 u1 => by
      rw [ix_set u0 (by omega) w0, count_take_succ h0 hj]
      split
      · rename_i e; subst e; rw [hcnt, if_pos rfl, hWw]; omega
      · rename_i e; rw [if_neg (fun q => e q.symm), hs u u0 u1]; rfl
    have hother : ∀ u : Int, u ∈ (ix c (ix R0 0)).take j.toNat → ix (W.set (ix (ix c (ix R0 0)) j).toNat (ix W (ix (ix c (ix R0 0)) j) - 1)) u = ix W u := fun u hu => by
      obtain ⟨_, _, u0, u1⟩ := h.rg _ _ ((h.mem (ix R0 0) u hv.1 hv.2).1 (List.mem_of_mem_take hu))
      rw [ix_set u0 (by omega) w0, if_neg (fun e : u = ix (ix c (ix R0 0)) j => hnew (by rw [← e]; exact hu))]
    have hat : ix (W.set (ix (ix c (ix R0 0)) j).toNat (ix W (ix (ix c (ix R0 0)) j) - 1)) (ix (ix c (ix R0 0)) j) = ix W (ix (ix c (ix R0 0)) j) - 1 := by rw [ix_set w0 (by omega) w0, if_pos rfl]
    have hr : ix (ix c (ix R0 0)) j ∈ r → ix (ix c (ix R0 0)) j ∈ r0 := fun q => ((hq _).1 q).elim id fun s => absurd s.1 hnew
    rw [hat]
    by_cases hc : ix W (ix (ix c (ix R0 0)) j) - 1 = 0
    · rw [if_pos (by simpa using hc)]
      simp only [LET]
      have hnr : ix (ix c (ix R0 0)) j ∉ r := fun q => by have := (hr0 _ (hr q)).2.2; omega
      have hrl := nd_len n r (asc_nd hp) fun u hu => by
        rcases (hq u).1 hu with q | ⟨q, _⟩
        · have := hr0 u q; omega
        · have := h.rg _ _ ((h.mem (ix R0 0) u hv.1 hv.2).1 (List.mem_of_mem_take q)); omega
      refine ord_L5 h hn R0 r0 W0 hv hW0 hr0 K m (j + 1) _ _ (by omega) (by omega) (by omega) (by rw [List.length_set]; exact hW) hW0' hset (ord1_asc hp hnr (by omega)) fun u => ?_
      rw [ord1_mem, hq, mem_take_succ h0 hj]
      constructor
      · rintro (rfl | q | ⟨q, s⟩)
        · exact .inr ⟨.inr rfl, by rw [hat]; exact hc⟩
        · exact .inl q
        · exact .inr ⟨.inl q, by rw [hother u q]; exact s⟩
      · rintro (q | ⟨q | q, s⟩)
        · exact .inr (.inl q)
        · exact .inr (.inr ⟨q, by rw [← hother u q]; exact s⟩)
        · exact .inl q
    · rw [if_neg (by simpa using hc)]
      refine ord_L5 h hn R0 r0 W0 hv hW0 hr0 K m (j + 1) _ _ (by omega) (by omega) (by omega) (by rw [List.length_set]; exact hW) hW0' hset hp fun u => ?_
      rw [hq, mem_take_succ h0 hj]
      constructor
      · rintro (q | ⟨q, s⟩)
        · exact .inl q
        · exact .inr ⟨.inl q, by rw [hother u q]; exact s⟩
      · rintro (q | ⟨q | rfl, s⟩)
        · exact .inl q
        · exact .inr ⟨q, by rw [← hother u q]; exact s⟩
        · rw [hat] at s; exact absurd s hc
/-- What has not been put out. -/
def rst (n : Nat) (o : List Int) : List Int := (nds n).filter fun v => !decide (v ∈ o)
theorem rst_mem {o : List Int} {v : Int} : v ∈ rst n o ↔ (0 ≤ v ∧ v < n) ∧ v ∉ o := by
  unfold rst
  rw [List.mem_filter, nds_mem]
  simp
theorem rst_snoc {o : List Int} {v : Int} (h0 : 0 ≤ v) (h1 : v < n) (h2 : v ∉ o) : (rst n o).Perm (v :: rst n (o ++ [v])) := by
  have hd : (rst n o).Nodup := (nds_nd n).filter _
  have hd2 : (rst n (o ++ [v])).Nodup := (nds_nd n).filter _
  refine (List.perm_ext_iff_of_nodup hd (List.nodup_cons.2 ⟨fun q => ?_, hd2⟩)).2 fun u => ?_
  · have := (rst_mem.1 q).2; simp at this
  · rw [List.mem_cons, rst_mem, rst_mem]
    simp only [List.mem_append, List.mem_singleton, not_or]
    constructor
    · rintro ⟨a, b⟩
      by_cases e : u = v
      · exact .inl e
      · exact .inr ⟨a, b, e⟩
    · rintro (rfl | ⟨a, b, _⟩)
      · exact ⟨⟨h0, h1⟩, h2⟩
      · exact ⟨a, b⟩
structure KI (n : Nat) (c : List (List Int)) (A : Int → Int → Prop) (o r W : List Int) : Prop where
  gr : Gr n A o
  len : W.length = n
  w : ∀ u : Int, 0 ≤ u → u < n → ix W u = (((rst n o).flatMap (ix c)).count u : Int)
  asc : r.Pairwise (fun a b => a < b)
  mem : ∀ u, u ∈ r ↔ (0 ≤ u ∧ u < n) ∧ u ∉ o ∧ ix W u = 0
theorem KI.zero (h : Cl n c A) {o r W : List Int} (k : KI n c A o r W) {u : Int} (u0 : 0 ≤ u) (u1 : u < n) : ix W u = 0 ↔ ∀ v, A v u → v ∈ o := by
  rw [k.w u u0 u1]
  constructor
  · intro e v ha
    have hz : ((rst n o).flatMap (ix c)).count u = 0 := by omega
    rw [List.count_eq_zero] at hz
    obtain ⟨v0, v1, _, _⟩ := h.rg v u ha
    by_cases hv : v ∈ o
    · exact hv
    · exact absurd (List.mem_flatMap.2 ⟨v, rst_mem.2 ⟨⟨v0, v1⟩, hv⟩, (h.mem v u v0 v1).2 ha⟩) hz
  · intro hp
    have : ((rst n o).flatMap (ix c)).count u = 0 := List.count_eq_zero.2 fun q => by
      obtain ⟨v, hv, hm⟩ := List.mem_flatMap.1 q
      obtain ⟨⟨v0, v1⟩, hno⟩ := rst_mem.1 hv
      exact hno (hp v ((h.mem v u v0 v1).1 hm))
    omega
theorem flatMap_len (h : Cl n c A) (hn : n ≤ 24) : ∀ (l : List Int), (∀ v ∈ l, 0 ≤ v ∧ v < (n : Int)) → (l.flatMap (ix c)).length ≤ 24 * l.length
  | [], _ => by simp
  | v :: l, hl => by
    have := flatMap_len h hn l fun u hu => hl u (List.mem_cons_of_mem _ hu)
    have hv := hl v List.mem_cons_self
    have := h.row hv.1 hv.2
    simp only [List.flatMap_cons, List.length_append, List.length_cons]
    omega
theorem KI.wb (h : Cl n c A) (hn : n ≤ 24) {o r W : List Int} (k : KI n c A o r W) : WB W 1000 := fun u u0 u1 => by
  rw [k.len] at u1
  rw [k.w u u0 u1]
  have h1 := flatMap_len h hn (rst n o) fun v hv => (rst_mem.1 hv).1
  have h2 : (rst n o).length ≤ n := nd_len n _ ((nds_nd n).filter _) fun v hv => (rst_mem.1 hv).1
  have h3 := List.count_le_length (a := u) (l := (rst n o).flatMap (ix c))
  omega
theorem KI.done (h : Cl n c A) {o W : List Int} (k : KI n c A o [] W) (w : Int) : ¬ IsNx n A o w := fun hx => by
  have := (k.mem w).2 ⟨⟨hx.h0, hx.h1⟩, hx.new, (k.zero h hx.h0 hx.h1).2 hx.pre⟩
  cases this
theorem ord_L4 (h : Cl n c A) (hn : n ≤ 24) : ∀ (m : Nat) (o r W : List Int), (n : Int) - o.length ≤ m → KI n c A o r W →
    Gr n A (digraph_order_L4 c (fun o _ _ => o) m o r W) ∧ ∀ w, ¬ IsNx n A (digraph_order_L4 c (fun o _ _ => o) m o r W) w
  | 0, o, r, W, hm, k => by
    rw [digraph_order_L4]
    have hl := k.gr.len
    refine ⟨k.gr, fun w hx => ?_⟩
    have := nd_len n (w :: o) (List.nodup_cons.2 ⟨hx.new, k.gr.nd⟩) fun v hv => by
      rcases List.mem_cons.1 hv with rfl | hv
      · exact ⟨hx.h0, hx.h1⟩
      · exact k.gr.rg v hv
    simp only [List.length_cons] at this
    omega
  | m + 1, o, r, W, hm, k => by
    rw [digraph_order_L4]
    cases r with
    | nil =>
      rw [if_neg (by simp)]
      exact ⟨k.gr, k.done h⟩
    | cons v r0 =>
      rw [if_pos (by simp)]
      simp only [LET]
      have e0 : ix (v :: r0) 0 = v := rfl
      have hd : slices_Delete__int_int_ (v :: r0) 0 1 = r0 := by unfold slices_Delete__int_int_; simp
      obtain ⟨⟨v0, v1⟩, vo, vz⟩ := (k.mem v).1 List.mem_cons_self
      have hasc := List.pairwise_cons.1 k.asc
      have hnx : IsNx n A o v := ⟨v0, v1, vo, (k.zero h v0 v1).1 vz, fun u u0 uv uo => by
        have hun : u < n := by omega
        by_cases hz : ix W u = 0
        · have := (k.mem u).2 ⟨⟨u0, hun⟩, uo, hz⟩
          rcases List.mem_cons.1 this with rfl | q
          · omega
          · have := hasc.1 u q; omega
        · rw [k.zero h u0 hun] at hz
          exact Classical.byContradiction fun q => hz fun x hx => Classical.byContradiction fun s => q ⟨x, hx, s⟩⟩
      obtain ⟨r', W', e, hl', hs, hp, hq⟩ := ord_L5 h hn (v :: r0) r0 W (by rw [e0]; exact ⟨v0, v1⟩) (k.wb h hn) (fun u hu => by
          obtain ⟨a, b, d⟩ := (k.mem u).1 (List.mem_cons_of_mem _ hu)
          exact ⟨a.1, a.2, d⟩) (fun z z' => digraph_order_L4 c (fun o _ _ => o) m (o ++ [ix (v :: r0) 0]) z z') (Int.toNat (((ix c (ix (v :: r0) 0)).length : Int) - 0)) 0 r0 W rfl (Int.le_refl _) (by omega) k.len k.len (by simp) hasc.2 (by simp)
      rw [hd]
      rw [e, e0]
      rw [e0] at hs hq
      have hW' : ∀ u : Int, 0 ≤ u → u < n → ix W' u = (((rst n (o ++ [v])).flatMap (ix c)).count u : Int) := fun u u0 u1 => by
        rw [hs u u0 u1, k.w u u0 u1]
        have hp := ((rst_snoc v0 v1 vo).flatMap_right (ix c)).count_eq u
        rw [hp, List.flatMap_cons, List.count_append]
        omega
      refine ord_L4 h hn m (o ++ [v]) r' W' (by rw [List.length_append, List.length_singleton]; omega) ⟨.snoc k.gr hnx, hl', hW', hp, fun u => ?_⟩
      rw [hq]
      constructor
      · rintro (q | ⟨q, s⟩)
        · obtain ⟨⟨u0, u1⟩, uo, uz⟩ := (k.mem u).1 (List.mem_cons_of_mem _ q)
          have h1 := hs u u0 u1
          have h2 := hW' u u0 u1
          refine ⟨⟨u0, u1⟩, fun q2 => ?_, by omega⟩
          rcases List.mem_append.1 q2 with q2 | q2
          · exact uo q2
          · simp only [List.mem_singleton] at q2
            have := hasc.1 u q
            omega
        · have ha := (h.mem v u v0 v1).1 q
          obtain ⟨_, _, u0, u1⟩ := h.rg v u ha
          refine ⟨⟨u0, u1⟩, fun q2 => ?_, s⟩
          rcases List.mem_append.1 q2 with q2 | q2
          · exact vo (k.gr.clo u q2 v ha)
          · simp only [List.mem_singleton] at q2
            subst q2
            exact vo ((k.zero h v0 v1).1 vz u ha)
      · rintro ⟨⟨u0, u1⟩, uo, uz⟩
        by_cases hr : u ∈ ix c v
        · exact .inr ⟨hr, uz⟩
        · left
          have h1 := hs u u0 u1
          rw [List.count_eq_zero.2 hr] at h1
          simp only [List.mem_append, List.mem_singleton, not_or] at uo
          have := (k.mem u).2 ⟨⟨u0, u1⟩, uo.1, by omega⟩
          rcases List.mem_cons.1 this with q | q
          · exact absurd q uo.2
          · exact q
theorem order_spec (h : Cl n c A) (hn : n ≤ 24) : Gr n A (digraph_order c) ∧ ∀ w, ¬ IsNx n A (digraph_order c) w := by
  have hl := h.len
  unfold digraph_order
  obtain ⟨W, e, hW, hb, hs⟩ := ord_L1 h hn (fun (zE102_113 : List Int) =>
      digraph_order_L3 zE102_113 (fun (zE117_126 : List Int) =>
          digraph_order_L4 c (fun (zE128_155 : List Int) (zE117_155 : List Int) (zE102_155 : List Int) =>
              zE128_155) (Int.toNat ((c.length : Int) - ([] : List Int).length)) ([] : List Int) zE117_126 zE102_113) (Int.toNat ((zE102_113.length : Int) - 0)) 0 ([] : List Int)) (Int.toNat ((c.length : Int) - 0)) 0 (List.replicate c.length (0 : Int)) rfl (Int.le_refl _) (by omega) (by simp [hl]) (wb_rep (by omega)) (fun w w0 w1 => by rw [ix_rep w0 (by omega)]; simp [nds])
  rw [e]
  obtain ⟨r, e2, hp, hq⟩ := ord_L3 W (fun (zE117_126 : List Int) =>
          digraph_order_L4 c (fun (zE128_155 : List Int) (zE117_155 : List Int) (zE102_155 : List Int) =>
              zE128_155) (Int.toNat ((c.length : Int) - ([] : List Int).length)) ([] : List Int) zE117_126 W) (by omega) (Int.toNat ((W.length : Int) - 0)) 0 [] rfl (Int.le_refl _) (by omega) (by simp) (fun u => by simp; omega)
  rw [e2]
  have er : rst n [] = nds n := by unfold rst; simp
  refine ord_L4 h hn _ [] r W (by simp only [List.length_nil]; omega) ⟨.nil, hW, fun u u0 u1 => by rw [er]; exact hs u u0 u1, hp, fun u => ?_⟩
  rw [hq, hW]
  simp
  exact ⟨fun ⟨a, b, d⟩ => ⟨⟨a, b⟩, d⟩, fun ⟨⟨a, b⟩, d⟩ => ⟨a, b, d⟩⟩
end
/-- In order, whatever its edges. -/
def Clx (g : List (List Int)) : Prop := ∃ A, Cl g.length g A
theorem ord_rg {g : List (List Int)} (h : Clx g) (hn : g.length ≤ 24) : ∀ v ∈ digraph_order g, 0 ≤ v ∧ v < (g.length : Int) := by
  obtain ⟨A, h⟩ := h
  exact (order_spec h hn).1.rg
theorem ord_len {g : List (List Int)} (h : Clx g) (hn : g.length ≤ 24) : (digraph_order g).length ≤ 24 := by
  obtain ⟨A, h⟩ := h
  have := (order_spec h hn).1.len
  omega
theorem rev_clx {g y : List (List Int)} (h : digraph_Reverse g = y) : Clx y := by
  subst h
  have := rev_cl g
  exact ⟨_, by rw [this.len]; exact this⟩
theorem clean_clx {g y : List (List Int)} (h : digraph_clean g = y) : Clx y := by
  subst h
  have := clean_cl g
  exact ⟨_, by rw [this.len]; exact this⟩
end Go.Proofs.Ytpdimhpjehfjeaa
