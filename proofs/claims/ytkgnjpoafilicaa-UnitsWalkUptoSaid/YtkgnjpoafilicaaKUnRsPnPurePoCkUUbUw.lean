/-
  Hand-written texts in one.
-/
import Derived.Test.YtkgnjpoafilicaaKDef
import Derived.Test.YtkgnjpoafilicaaKMuUm
import Derived.Test.YtkgnjpoafilicaaPbP
import Derived.Test.YtkgnjpoafilicaaKExAEx
set_option linter.unusedVariables false
set_option linter.unusedSimpArgs false
set_option maxRecDepth 100000
namespace Go.Proofs.Ytkgnjpoafilicaa
open Go Go.Pb Go.RowKit
theorem cg_use {x y : List api_Guard} (h : slices_Clone__api_Guard_api_Guard_ x = y) : y.length = x.length := by subst h; rfl
theorem ce_use {x y : List api_ExprNode} (h : slices_Clone__api_ExprNode_api_ExprNode_ x = y) : y.length = x.length := by subst h; rfl
theorem ub11_len (b : Bool) (g : List api_Guard) (n : Int) : (units_Build_1_1 b g n).length = g.length + 1 := by
  simp [units_Build_1_1, LET, slices_Clone__api_Guard_api_Guard_]
theorem under_len (b : Bool) (g : List api_Guard) (n : Int) : (ref32_under g n b).length = g.length + 1 := by
  simp [ref32_under]
theorem un_use {b : Bool} {g y : List api_Guard} {n : Int} (h : ref32_under g n b = y) : y.length = g.length + 1 := by subst h; exact under_len b g n
theorem csl_nil : csl [] = 0 := by rw [csl]
theorem build_L1 (x0 : List api_ControlNode) (x1 : List api_Guard) (rec_ : List api_ControlNode → List api_Guard → List api_Unit → List api_Unit) (hr : ∀ z0 z1 z2, (rec_ z0 z1 z2).length ≤ z2.length + csl z0) :
    ∀ (m : Nat) (i : Int) (z : List api_Unit), m = Int.toNat ((x0.length : Int) - i) → 0 ≤ i → (units_Build_1_L1 x0 x1 rec_ (fun z => z) m i z).length ≤ z.length + csl (x0.drop i.toNat)
  | 0, i, z, hm, h0 => by rw [units_Build_1_L1]; omega
  | m + 1, i, z, hm, h0 => by
    rw [units_Build_1_L1]
    simp only [LET]
    rw [csl_drop (l := x0) (i := i) h0 (by omega)]
    split
    · refine Nat.le_trans (build_L1 x0 x1 rec_ hr m (i + 1) _ (by omega) (by omega)) ?_
      refine Nat.le_trans (Nat.add_le_add_right (Nat.le_trans (hr _ _ _) (Nat.add_le_add_right (hr _ _ _) _)) _) ?_
      simp only [List.length_append, List.length_cons, List.length_nil]
      omega
    · refine Nat.le_trans (build_L1 x0 x1 rec_ hr m (i + 1) _ (by omega) (by omega)) ?_
      refine Nat.le_trans (Nat.add_le_add_right (Nat.le_trans (hr _ _ _) (Nat.add_le_add_right (hr _ _ _) _)) _) ?_
      simp only [List.length_append, List.length_cons, List.length_nil]
      omega
theorem build_len : ∀ (k : Nat) (z0 : List api_ControlNode) (z1 : List api_Guard) (z2 : List api_Unit), (units_Build_1_R k z0 z1 z2).length ≤ z2.length + csl z0
  | 0, z0, z1, z2 => by rw [units_Build_1_R]; omega
  | k + 1, z0, z1, z2 => by
    rw [units_Build_1_R]
    unfold units_Build_1_B
    exact build_L1 z0 z1 _ (build_len k) _ 0 z2 rfl (by omega)
theorem bl_use {f : List api_ControlNode → List api_Guard → List api_Unit → List api_Unit} (h : ∀ z0 z1 z2, (f z0 z1 z2).length ≤ z2.length + csl z0) {a : List api_ControlNode} {b : List api_Guard} {c y : List api_Unit} (e : f a b c = y) : y.length ≤ c.length + csl a := e ▸ h a b c
theorem collect_L1 (x1 : List api_ControlNode) (x2 : List api_Guard) (rec_ : List api_Unit → List api_ControlNode → List api_Guard → List api_Unit) (hr : ∀ z0 z1 z2, (rec_ z0 z1 z2).length ≤ z0.length + csl z1) :
    ∀ (m : Nat) (i : Int) (z : List api_Unit), m = Int.toNat ((x1.length : Int) - i) → 0 ≤ i → (ref32_collect_L1 x1 x2 rec_ (fun z => z) m i z).length ≤ z.length + csl (x1.drop i.toNat)
  | 0, i, z, hm, h0 => by rw [ref32_collect_L1]; omega
  | m + 1, i, z, hm, h0 => by
    rw [ref32_collect_L1]
    simp only [LET]
    rw [csl_drop (l := x1) (i := i) h0 (by omega)]
    split
    · refine Nat.le_trans (collect_L1 x1 x2 rec_ hr m (i + 1) _ (by omega) (by omega)) ?_
      refine Nat.le_trans (Nat.add_le_add_right (Nat.le_trans (hr _ _ _) (Nat.add_le_add_right (hr _ _ _) _)) _) ?_
      simp only [List.length_append, List.length_cons, List.length_nil]
      omega
    · refine Nat.le_trans (collect_L1 x1 x2 rec_ hr m (i + 1) _ (by omega) (by omega)) ?_
      refine Nat.le_trans (Nat.add_le_add_right (Nat.le_trans (hr _ _ _) (Nat.add_le_add_right (hr _ _ _) _)) _) ?_
      simp only [List.length_append, List.length_cons, List.length_nil]
      omega
theorem collect_len : ∀ (k : Nat) (z0 : List api_Unit) (z1 : List api_ControlNode) (z2 : List api_Guard), (ref32_collect_R k z0 z1 z2).length ≤ z0.length + csl z1
  | 0, z0, z1, z2 => by rw [ref32_collect_R]; omega
  | k + 1, z0, z1, z2 => by
    rw [ref32_collect_R]
    unfold ref32_collect_B
    exact collect_L1 z1 z2 _ (collect_len k) _ 0 z0 rfl (by omega)
theorem cl_use {f : List api_Unit → List api_ControlNode → List api_Guard → List api_Unit} (h : ∀ z0 z1 z2, (f z0 z1 z2).length ≤ z0.length + csl z1) {b : List api_ControlNode} {c : List api_Guard} {a y : List api_Unit} (e : f a b c = y) : y.length ≤ a.length + csl b := e ▸ h a b c
def VR (f : List Bool → List api_ControlNode → List Bool → Int → Bool → List Bool × Int) : Prop := ∀ z0 z1 z2 (z3 : Int) z4, 0 ≤ z3 → z3 + csl z1 ≤ 1000000 → (f z0 z1 z2 z3 z4).1.length ≤ z0.length + csl z1 ∧ 0 ≤ (f z0 z1 z2 z3 z4).2 ∧ (f z0 z1 z2 z3 z4).2 ≤ z3 + csl z1
theorem visit_L1 (x1 : List api_ControlNode) (x2 : List Bool) (x4 : Bool) (rec_ : List Bool → List api_ControlNode → List Bool → Int → Bool → List Bool × Int) (hr : VR rec_) :
    ∀ (m : Nat) (c i : Int) (z : List Bool), m = Int.toNat ((x1.length : Int) - i) → 0 ≤ i → 0 ≤ c → c + csl (x1.drop i.toNat) ≤ 1000000 →
      (law32_visit_L1 x1 x2 x4 rec_ (fun a b => (b, a)) m c i z).1.length ≤ z.length + csl (x1.drop i.toNat) ∧ 0 ≤ (law32_visit_L1 x1 x2 x4 rec_ (fun a b => (b, a)) m c i z).2 ∧ (law32_visit_L1 x1 x2 x4 rec_ (fun a b => (b, a)) m c i z).2 ≤ c + csl (x1.drop i.toNat)
  | 0, c, i, z, hm, h0, hc, hb => by rw [law32_visit_L1]; exact ⟨Nat.le_add_right _ _, hc, by show c ≤ _; omega⟩
  | m + 1, c, i, z, hm, h0, hc, hb => by
    rw [law32_visit_L1]
    simp only [LET]
    have hd := csl_drop (l := x1) (i := i) h0 (by omega)
    have hw : wr (c + 1) = c + 1 := wr_of (by omega) (by omega)
    rw [hw]
    obtain ⟨a1, a2, a3⟩ := hr (z ++ [x4]) (ix x1 i).Then x2 (c + 1) (x4 && (decide (c < (x2.length : Int)) && ix x2 c)) (by omega) (by omega)
    generalize rec_ (z ++ [x4]) (ix x1 i).Then x2 (c + 1) (x4 && (decide (c < (x2.length : Int)) && ix x2 c)) = p at *
    obtain ⟨b1, b2, b3⟩ := hr p.1 (ix x1 i).Else x2 p.2 (x4 && !(decide (c < (x2.length : Int)) && ix x2 c)) (by omega) (by omega)
    generalize rec_ p.1 (ix x1 i).Else x2 p.2 (x4 && !(decide (c < (x2.length : Int)) && ix x2 c)) = q at *
    obtain ⟨c1, c2, c3⟩ := visit_L1 x1 x2 x4 rec_ hr m q.2 (i + 1) q.1 (by omega) (by omega) (by omega) (by omega)
    simp only [List.length_append, List.length_cons, List.length_nil] at a1
    exact ⟨by omega, c2, by omega⟩
theorem visit_len : ∀ k : Nat, VR (law32_visit_R k)
  | 0 => fun z0 z1 z2 z3 z4 h0 h1 => by rw [law32_visit_R]; exact ⟨Nat.le_add_right _ _, h0, by show z3 ≤ _; omega⟩
  | k + 1 => fun z0 z1 z2 z3 z4 h0 h1 => by
    rw [law32_visit_R]
    unfold law32_visit_B
    exact visit_L1 z1 z2 z4 _ (visit_len k) _ z3 0 z0 rfl (by omega) h0 h1
theorem vi_use {f : List Bool → List api_ControlNode → List Bool → Int → Bool → List Bool × Int} (h : VR f) {a : List Bool} {b : List api_ControlNode} {c : List Bool} {d : Int} {e : Bool} {y : List Bool × Int} (k : f a b c d e = y) (h0 : 0 ≤ d) (h1 : d + csl b ≤ 1000000) : y.1.length ≤ a.length + csl b ∧ 0 ≤ y.2 ∧ y.2 ≤ d + csl b := k ▸ h a b c d e h0 h1
/-! A small program has few nodes -/
theorem btl_drop {l : List api_ControlNode} {i : Int} (h0 : 0 ≤ i) (h1 : i < l.length) : btl (l.drop i.toNat) = 1 + (ix l i).Cond.length + btl (ix l i).Then + btl (ix l i).Else + btl (l.drop (i + 1).toNat) := by
  rw [drop_ix h0 h1, btl, btn_eq]
def BL (r : Int) (z : List api_ControlNode) : Prop := 0 ≤ r ∧ r ≤ 61 + 123 * (btl z : Int) ∧ (r ≤ 60 → (csl z : Int) ≤ r)
theorem blk_L1 (x0 : List api_ControlNode) (d : Int) (rec_ : List api_ControlNode → Int → Int → Int) (hd : 0 ≤ d ∧ d ≤ 20) (hr : ∀ z e, csl z < csl x0 → btl z ≤ 1048576 → 0 ≤ e ∧ e ≤ 21 → BL (rec_ z e 60) z) :
    ∀ (m : Nat) (n i : Int), m = Int.toNat ((x0.length : Int) - i) → 0 ≤ i → i ≤ x0.length → 0 ≤ n → n ≤ 300000000 → btl (x0.drop i.toNat) ≤ 1048576 → n ≤ law22_blocks_L1 x0 d 60 rec_ (fun z => z) m n i ∧ law22_blocks_L1 x0 d 60 rec_ (fun z => z) m n i ≤ n + 123 * (btl (x0.drop i.toNat) : Int) ∧
      (law22_blocks_L1 x0 d 60 rec_ (fun z => z) m n i ≤ 60 → n + csl (x0.drop i.toNat) ≤ law22_blocks_L1 x0 d 60 rec_ (fun z => z) m n i + ((x0.length : Int) - i))
  | 0, n, i, hm, h0, hi, n0, n1, hb => by
    rw [law22_blocks_L1, drop_end (by omega), csl]
    exact ⟨Int.le_refl _, by omega, fun _ => by omega⟩
  | m + 1, n, i, hm, h0, hi, n0, n1, hb => by
    rw [law22_blocks_L1]
    simp only [LET]
    split
    · have e3 : wr (d + 1) = d + 1 := wr_of (by omega) (by omega)
      have hlt := csl_ix (l := x0) (i := i) h0 (by omega)
      have hcd := csl_drop (l := x0) (i := i) h0 (by omega)
      have hbd := btl_drop (l := x0) (i := i) h0 (by omega)
      rw [e3]
      obtain ⟨a1, a2, a3⟩ := hr (ix x0 i).Then (d + 1) hlt.1 (by omega) (by omega)
      obtain ⟨b1, b2, b3⟩ := hr (ix x0 i).Else (d + 1) hlt.2 (by omega) (by omega)
      generalize rec_ (ix x0 i).Then (d + 1) 60 = r1 at *
      generalize rec_ (ix x0 i).Else (d + 1) 60 = r2 at *
      have hq0 : 0 ≤ Int.tdiv ((ix x0 i).Cond.length : Int) 20 := Int.tdiv_nonneg (by omega) (by omega)
      have hq1 : Int.tdiv ((ix x0 i).Cond.length : Int) 20 ≤ (ix x0 i).Cond.length := by
        rw [Int.tdiv_eq_ediv_of_nonneg (by omega)]; omega
      generalize Int.tdiv ((ix x0 i).Cond.length : Int) 20 = q at *
      have w1 : wr (r1 + r2) = r1 + r2 := wr_of (by omega) (by omega)
      have w2 : wr q = q := wr_of (by omega) (by omega)
      have w3 : wr (r1 + r2 + q) = r1 + r2 + q := wr_of (by omega) (by omega)
      have w4 : wr (n + (r1 + r2 + q)) = n + (r1 + r2 + q) := wr_of (by omega) (by omega)
      rw [w1, w2, w3, w4]
      rename_i hc
      simp only [Bool.and_eq_true, decide_eq_true_eq] at hc
      obtain ⟨c1, c2, c3⟩ := blk_L1 x0 d rec_ hd hr m (n + (r1 + r2 + q)) (i + 1) (by omega) (by omega) (by omega) (by omega) (by omega) (by omega)
      refine ⟨by omega, by omega, fun h => ?_⟩
      have := c3 h
      have := a3 (by omega)
      have := b3 (by omega)
      omega
    · rename_i hc
      simp only [Bool.and_eq_true, decide_eq_true_eq] at hc
      exact ⟨Int.le_refl _, by omega, fun h => by omega⟩
theorem blk_R : ∀ (k : Nat) (z : List api_ControlNode) (e : Int), csl z < k → btl z ≤ 1048576 → 0 ≤ e ∧ e ≤ 21 → BL (law22_blocks_R k z e 60) z
  | 0, z, e, h, _, _ => absurd h (Nat.not_lt_zero _)
  | k + 1, z, e, h, hb, he => by
    rw [law22_blocks_R]
    unfold law22_blocks_B
    split
    · rw [wr_of (by omega) (by omega)]
      exact ⟨by omega, by omega, fun h => by omega⟩
    · rename_i hc
      simp only [Bool.or_eq_true, decide_eq_true_eq, not_or] at hc
      obtain ⟨a1, a2, a3⟩ := blk_L1 z e (law22_blocks_R k) (by omega) (fun y f h1 h2 h3 => blk_R k y f (by omega) h2 h3) _ (z.length : Int) 0 rfl (by omega) (by omega) (by omega) (by omega) (by simpa using hb)
      have e0 : z.drop (0 : Int).toNat = z := rfl
      rw [e0] at a2 a3
      exact ⟨by omega, by omega, fun h => by have := a3 h; omega⟩
theorem small_S {p : api_Program} (h : law22_Small p = true) : law22_blocks p.Control 0 60 ≤ 60 := by
  unfold law22_Small at h
  simp only [LET] at h
  split at h
  · cases h
  · rename_i hc
    simp only [Bool.or_eq_true, decide_eq_true_eq, not_or] at hc
    omega
theorem sm_csl {p : api_Program} {b : Bool} (h : law22_Small p = b) (hb : b = true) (hu : btl p.Control ≤ 1048576) : csl p.Control ≤ 60 := by
  subst hb
  have h1 := small_S h
  have h2 := (blk_R (csl p.Control + 1) p.Control 0 (Nat.lt_succ_self _) hu (by omega)).2.2 h1
  unfold law22_blocks at h1
  omega
theorem sm_tb {p : api_Program} {b : Bool} (h : law22_Small p = b) (hb : b = true) : p.Tables.length ≤ 30 := by
  subst hb
  unfold law22_Small at h
  simp only [LET] at h
  split at h
  · cases h
  · rename_i hc
    simp only [Bool.or_eq_true, decide_eq_true_eq, not_or] at hc
    omega
section
variable {σ : Type} (step : api_ControlNode → σ → Bool × σ)
def runS : List api_ControlNode → σ → Bool × σ
  | [], s => (true, s)
  | x :: l, s => if (step x s).1 = true then runS l (step x s).2 else (false, (step x s).2)
theorem runS_app : ∀ (a b : List api_ControlNode) (s : σ), runS step (a ++ b) s = if (runS step a s).1 = true then runS step b (runS step a s).2 else (false, (runS step a s).2)
  | [], b, s => by simp [runS]
  | x :: a, b, s => by
    rw [List.cons_append, runS, runS]
    split
    · exact runS_app a b _
    · simp
mutual
theorem preN_run : ∀ (x : api_ControlNode) (s : σ), preN step x s = runS step (poN x) s
  | ⟨a, b, c, t, e⟩, s => by
    rw [preN, poN, runS]
    split
    · rw [preL_run t, runS_app]
      split
      · exact preL_run e _
      · rfl
    · rfl
theorem preL_run : ∀ (l : List api_ControlNode) (s : σ), preL step l s = runS step (poL l) s
  | [], s => by rw [preL, poL, runS]
  | x :: l, s => by
    rw [preL, poL, runS_app, preN_run x]
    split
    · exact preL_run l _
    · rfl
end
theorem pre_run (l : List api_ControlNode) (s : σ) : control_preorder step l s = runS step (poL l) s := preL_run step l s
end
theorem runS_inv {σ : Type} {step : api_ControlNode → σ → Bool × σ} {P : σ → Prop} (h : ∀ a s, P s → P (step a s).2) : ∀ (l : List api_ControlNode) (s : σ), P s → P (runS step l s).2
  | [], s, hs => hs
  | x :: l, s, hs => by
    rw [runS]
    split
    · exact runS_inv h l _ (h x s hs)
    · exact h x s hs
/-! Count -/
theorem count_run : ∀ (l : List api_ControlNode) (n : Int), 0 ≤ n → n + l.length ≤ 100000 → runS (fun a_ s_ => control_Count_1 a_ s_) l n = (true, n + l.length)
  | [], n, h0, h1 => by simp [runS]
  | x :: l, n, h0, h1 => by
    rw [List.length_cons] at h1
    rw [runS]
    show (if true = true then runS (fun a_ s_ => control_Count_1 a_ s_) l (wr (n + 1)) else _) = _
    rw [if_pos rfl, wr_of (by omega) (by omega), count_run l (n + 1) (by omega) (by omega), List.length_cons]
    congr 1
    omega
theorem count_eq {l : List api_ControlNode} (h : csl l ≤ 1000) : control_Count l = csl l := by
  unfold control_Count
  simp only [LET, pre_run]
  rw [count_run _ 0 (by omega) (by rw [poL_len]; omega), poL_len]
  show (0 : Int) + (csl l : Int) = csl l
  omega
theorem cnt_le {c : List api_ControlNode} {w : Int} (h : control_Count c = w) : w ≤ 9223372036854775807 := by
  subst h
  unfold control_Count
  simp only [LET, pre_run]
  refine runS_inv (P := fun n => n ≤ 9223372036854775807) (fun a s hs => ?_) _ _ (by omega)
  show wr (s + 1) ≤ 9223372036854775807
  have := (wr_range (s + 1)).2
  omega
theorem cn_L1 (x : api_ControlNode) (u : List Int) (K : Unit → Int) : ∀ (m : Nat) (i : Int), m = Int.toNat ((u.length : Int) - i) → 0 ≤ i → control_checkNode_L1 x u K m i = if x.Table ∈ u.drop i.toNat then 7 else K ()
  | 0, i, hm, h0 => by rw [control_checkNode_L1, drop_end (by omega), if_neg (by simp)]
  | m + 1, i, hm, h0 => by
    rw [control_checkNode_L1, drop_ix (c := u) (i := i) h0 (by omega)]
    by_cases hc : ix u i = x.Table
    · rw [if_pos (by simpa using hc), if_pos (by simp [hc])]
    · rw [if_neg (by simpa using hc), cn_L1 x u K m (i + 1) (by omega) (by omega)]
      have : x.Table ∈ ix u i :: u.drop (i + 1).toNat ↔ x.Table ∈ u.drop (i + 1).toNat := by
        rw [List.mem_cons]
        constructor
        · rintro (h | h)
          · exact absurd h.symm hc
          · exact h
        · exact .inr
      simp only [this]
theorem preorder_L1 (x0 : List api_ControlNode) (rec_ : List api_ControlNode → List api_ControlNode) (hr : ∀ z, (rec_ z).length ≤ csl z) : ∀ (m : Nat) (i : Int) (z : List api_ControlNode), m = Int.toNat ((x0.length : Int) - i) → 0 ≤ i → (ref20_Preorder_L1 x0 rec_ (fun z => z) m i z).length ≤ z.length + csl (x0.drop i.toNat)
  | 0, i, z, hm, h0 => by rw [ref20_Preorder_L1]; omega
  | m + 1, i, z, hm, h0 => by
    rw [ref20_Preorder_L1]
    simp only [LET]
    have := preorder_L1 x0 rec_ hr m (i + 1) (((z ++ ([ix x0 i] : List api_ControlNode)) ++ rec_ (ix x0 i).Then) ++ rec_ (ix x0 i).Else) (by omega) (by omega)
    have h1 := hr (ix x0 i).Then
    have h2 := hr (ix x0 i).Else
    rw [csl_drop (l := x0) (i := i) h0 (by omega)]
    simp only [List.length_append, List.length_cons, List.length_nil] at this
    omega
theorem preorder_len : ∀ (k : Nat) (z : List api_ControlNode), (ref20_Preorder_R k z).length ≤ csl z
  | 0, z => by rw [ref20_Preorder_R]; simp
  | k + 1, z => by
    rw [ref20_Preorder_R]
    unfold ref20_Preorder_B
    have := preorder_L1 z _ (preorder_len k) (Int.toNat ((z.length : Int) - 0)) 0 [] rfl (by omega)
    simpa using this
theorem lenle {f : List api_ControlNode → List api_ControlNode} (h : ∀ z, (f z).length ≤ csl z) {z y : List api_ControlNode} (e : f z = y) : y.length ≤ csl z := e ▸ h z
/-! The definition's preorder -/
theorem refpre_L1 (x0 : List api_ControlNode) (rec_ : List api_ControlNode → List api_ControlNode) (hr : ∀ z, csl z < csl x0 → rec_ z = poL z) : ∀ (m : Nat) (i : Int) (z : List api_ControlNode), m = Int.toNat ((x0.length : Int) - i) → 0 ≤ i → ref20_Preorder_L1 x0 rec_ (fun z => z) m i z = z ++ poL (x0.drop i.toNat)
  | 0, i, z, hm, h0 => by rw [ref20_Preorder_L1, drop_end (by omega), poL, List.append_nil]
  | m + 1, i, z, hm, h0 => by
    rw [ref20_Preorder_L1]
    simp only [LET]
    have hlt := csl_ix (l := x0) h0 (by omega)
    rw [refpre_L1 x0 rec_ hr m (i + 1) _ (by omega) (by omega), hr _ hlt.1, hr _ hlt.2, drop_ix (c := x0) (i := i) h0 (by omega), poL, poN_eq]
    simp
theorem refpre_R : ∀ (k : Nat) (l : List api_ControlNode), csl l < k → ref20_Preorder_R k l = poL l
  | 0, l, h => by omega
  | k + 1, l, h => by
    rw [ref20_Preorder_R]
    unfold ref20_Preorder_B
    rw [refpre_L1 l _ (fun z hz => refpre_R k z (by omega)) _ 0 [] rfl (by omega)]
    simp
theorem refpre_eq (l : List api_ControlNode) : ref20_Preorder l = poL l := refpre_R _ l (Nat.lt_succ_self _)
theorem refcount_L1 (x0 : List api_ControlNode) (rec_ : List api_ControlNode → Int) (hs : csl x0 ≤ 1000) (hr : ∀ z, csl z < csl x0 → rec_ z = csl z) : ∀ (m : Nat) (n i : Int), m = Int.toNat ((x0.length : Int) - i) → 0 ≤ i → 0 ≤ n → n + csl (x0.drop i.toNat) ≤ 1000 → ref20_Count_L1 x0 rec_ (fun z => z) m n i = n + csl (x0.drop i.toNat)
  | 0, n, i, hm, h0, n0, n1 => by rw [ref20_Count_L1, drop_end (by omega), csl]; omega
  | m + 1, n, i, hm, h0, n0, n1 => by
    rw [ref20_Count_L1]
    simp only [LET]
    have hlt := csl_ix (l := x0) h0 (by omega)
    have hd := csl_drop (l := x0) (i := i) h0 (by omega)
    rw [hr _ hlt.1, hr _ hlt.2, wr_of (n := 1 + (csl (ix x0 i).Then : Int)) (by omega) (by omega), wr_of (n := 1 + (csl (ix x0 i).Then : Int) + (csl (ix x0 i).Else : Int)) (by omega) (by omega), wr_of (by omega) (by omega), refcount_L1 x0 rec_ hs hr m _ (i + 1) (by omega) (by omega) (by omega) (by omega)]
    omega
theorem refcount_R : ∀ (k : Nat) (l : List api_ControlNode), csl l < k → csl l ≤ 1000 → ref20_Count_R k l = csl l
  | 0, l, h, _ => by omega
  | k + 1, l, h, hs => by
    rw [ref20_Count_R]
    unfold ref20_Count_B
    rw [refcount_L1 l _ hs (fun z hz => refcount_R k z (by omega) (by omega)) _ 0 0 rfl (by omega) (by omega) (by simp; omega)]
    simp
theorem refcount_eq {l : List api_ControlNode} (h : csl l ≤ 1000) : ref20_Count l = csl l := refcount_R _ l (Nat.lt_succ_self _) h
/-! Nesting -/
theorem nest_L1 (x0 : List api_ControlNode) (r1 r2 : List api_ControlNode → Int) (hr : ∀ z, csl z < csl x0 → r1 z = r2 z ∧ 0 ≤ r1 z ∧ r1 z ≤ csl z) : ∀ (m : Nat) (n i : Int), m = Int.toNat ((x0.length : Int) - i) → 0 ≤ i → 0 ≤ n → n ≤ csl x0 → csl x0 ≤ 1000 →
      ref20_Nesting_L1 x0 r2 (fun z => z) m (n + 1) i = control_Nesting_L1 x0 r1 (fun z => wr (z + 1)) m n i ∧ 1 ≤ ref20_Nesting_L1 x0 r2 (fun z => z) m (n + 1) i ∧ ref20_Nesting_L1 x0 r2 (fun z => z) m (n + 1) i ≤ csl x0 + 1
  | 0, n, i, hm, h0, n0, n1, hs => by
    rw [ref20_Nesting_L1, control_Nesting_L1, wr_of (by omega) (by omega)]
    exact ⟨rfl, by omega, by omega⟩
  | m + 1, n, i, hm, h0, n0, n1, hs => by
    rw [ref20_Nesting_L1, control_Nesting_L1]
    simp only [LET]
    have hlt := csl_ix (l := x0) (i := i) h0 (by omega)
    obtain ⟨a1, a2, a3⟩ := hr _ hlt.1
    obtain ⟨b1, b2, b3⟩ := hr _ hlt.2
    rw [← a1, ← b1, wr_of (n := 1 + r1 (ix x0 i).Then) (by omega) (by omega), wr_of (n := 1 + r1 (ix x0 i).Else) (by omega) (by omega)]
    have e : max (max (n + 1) (1 + r1 (ix x0 i).Then)) (1 + r1 (ix x0 i).Else) = max (max n (r1 (ix x0 i).Then)) (r1 (ix x0 i).Else) + 1 := by omega
    rw [e]
    exact nest_L1 x0 r1 r2 hr m _ (i + 1) (by omega) (by omega) (by omega) (by omega) hs
theorem nest_bound (x0 : List api_ControlNode) (r2 : List api_ControlNode → Int) (hr : ∀ z, csl z < csl x0 → 0 ≤ r2 z ∧ r2 z ≤ csl z) : ∀ (m : Nat) (n i : Int), m = Int.toNat ((x0.length : Int) - i) → 0 ≤ i → n ≤ csl x0 → csl x0 ≤ 1000 → ref20_Nesting_L1 x0 r2 (fun z => z) m n i ≤ csl x0
  | 0, n, i, hm, h0, n1, hs => by rw [ref20_Nesting_L1]; exact n1
  | m + 1, n, i, hm, h0, n1, hs => by
    rw [ref20_Nesting_L1]
    simp only [LET]
    have hlt := csl_ix (l := x0) (i := i) h0 (by omega)
    obtain ⟨a2, a3⟩ := hr _ hlt.1
    obtain ⟨b2, b3⟩ := hr _ hlt.2
    rw [wr_of (n := 1 + r2 (ix x0 i).Then) (by omega) (by omega), wr_of (n := 1 + r2 (ix x0 i).Else) (by omega) (by omega)]
    exact nest_bound x0 r2 hr m _ (i + 1) (by omega) (by omega) (by omega) hs
theorem nest_R : ∀ (k : Nat) (l : List api_ControlNode), csl l < k → csl l ≤ 1000 → control_Nesting_R k l = ref20_Nesting_R k l ∧ 0 ≤ control_Nesting_R k l ∧ control_Nesting_R k l ≤ csl l
  | 0, l, h, _ => by omega
  | k + 1, l, h, hs => by
    rw [control_Nesting_R, ref20_Nesting_R]
    unfold control_Nesting_B ref20_Nesting_B
    have ih : ∀ z, csl z < csl l → control_Nesting_R k z = ref20_Nesting_R k z ∧ 0 ≤ control_Nesting_R k z ∧ control_Nesting_R k z ≤ csl z := fun z hz => nest_R k z (by omega) (by omega)
    by_cases hl : l.length = 0
    · rw [if_pos (by simp [hl]), hl]
      rw [show Int.toNat (((0 : Nat) : Int) - 0) = 0 from rfl, ref20_Nesting_L1]
      exact ⟨rfl, by omega, by omega⟩
    · rw [if_neg (by simpa using hl)]
      have hb := nest_bound l (ref20_Nesting_R k) (fun z hz => by rw [← (ih z hz).1]; exact (ih z hz).2) (Int.toNat ((l.length : Int) - 0)) 0 0 rfl (by omega) (by omega) hs
      obtain ⟨j, hj⟩ : ∃ j, Int.toNat ((l.length : Int) - 0) = j + 1 := ⟨l.length - 1, by omega⟩
      rw [hj] at hb ⊢
      have hlt := csl_ix (l := l) (i := 0) (by omega) (by omega)
      obtain ⟨a1, a2, a3⟩ := ih _ hlt.1
      obtain ⟨b1, b2, b3⟩ := ih _ hlt.2
      rw [ref20_Nesting_L1] at hb ⊢
      rw [control_Nesting_L1]
      simp only [LET] at hb ⊢
      rw [← a1, ← b1, wr_of (n := 1 + control_Nesting_R k (ix l 0).Then) (by omega) (by omega), wr_of (n := 1 + control_Nesting_R k (ix l 0).Else) (by omega) (by omega)] at hb ⊢
      have e : max (max 0 (1 + control_Nesting_R k (ix l 0).Then)) (1 + control_Nesting_R k (ix l 0).Else) = max (max 0 (control_Nesting_R k (ix l 0).Then)) (control_Nesting_R k (ix l 0).Else) + 1 := by omega
      rw [e] at hb ⊢
      obtain ⟨q1, q2, q3⟩ := nest_L1 l (control_Nesting_R k) (ref20_Nesting_R k) ih j (max (max 0 (control_Nesting_R k (ix l 0).Then)) (control_Nesting_R k (ix l 0).Else)) (0 + 1) (by omega) (by omega) (by omega) (by omega) hs
      exact ⟨q1.symm, by rw [← q1]; omega, by rw [← q1]; exact hb⟩
theorem nest_eq {l : List api_ControlNode} (h : csl l ≤ 1000) : control_Nesting l = ref20_Nesting l ∧ 0 ≤ control_Nesting l ∧ control_Nesting l ≤ csl l := nest_R _ l (Nat.lt_succ_self _) h
theorem applies_eq (x : api_ControlNode) : ref20_applies x = control_applies x := rfl
def tbs (l : List api_ControlNode) : List Int := (l.filter control_applies).map (·.Table)
theorem ab_L1 (L : List api_ControlNode) (n : Int) (hn : n ≤ L.length) : ∀ (m : Nat) (i : Int), m = Int.toNat (n - i) → 0 ≤ i → ref20_appliedBefore_L1 L n (fun _ => false) m i = decide ((ix L n).Table ∈ tbs ((L.take n.toNat).drop i.toNat))
  | 0, i, hm, h0 => by
    rw [ref20_appliedBefore_L1, List.drop_eq_nil_of_le (by rw [List.length_take]; omega)]
    simp [tbs]
  | m + 1, i, hm, h0 => by
    have h1 : i < n := by omega
    have hd : (L.take n.toNat).drop i.toNat = ix L i :: (L.take n.toNat).drop (i + 1).toNat := by
      have e := drop_ix (c := L.take n.toNat) (i := i) h0 (by rw [List.length_take]; omega)
      rw [e]
      congr 1
      unfold ix
      rw [List.getD_eq_getElem?_getD, List.getD_eq_getElem?_getD, List.getElem?_take, if_pos (by omega)]
    rw [ref20_appliedBefore_L1, hd]
    simp only [LET]
    rw [ab_L1 L n hn m (i + 1) (by omega) (by omega)]
    unfold tbs
    rw [List.filter_cons]
    by_cases ha : control_applies (ix L i) = true
    · rw [if_pos ha]
      by_cases hc : (ix L i).Table = (ix L n).Table
      · rw [if_pos (show (ref20_applies (ix L i) && decide ((ix L i).Table = (ix L n).Table)) = true by simp [applies_eq, ha, hc])]
        simp [hc]
      · rw [if_neg (show ¬(ref20_applies (ix L i) && decide ((ix L i).Table = (ix L n).Table)) = true by simp [hc])]
        simp only [List.map_cons, List.mem_cons]
        rw [decide_eq_decide]
        constructor
        · exact .inr
        · rintro (h | h)
          · exact absurd h.symm hc
          · exact h
    · rw [if_neg ha, if_neg (show ¬(ref20_applies (ix L i) && decide ((ix L i).Table = (ix L n).Table)) = true by simp [applies_eq, ha])]
theorem ab_eq (L : List api_ControlNode) {n : Int} (h0 : 0 ≤ n) (hn : n ≤ L.length) : ref20_appliedBefore L n = decide ((ix L n).Table ∈ tbs (L.take n.toNat)) := by
  unfold ref20_appliedBefore
  rw [ab_L1 L n hn _ 0 rfl (by omega)]
  simp
theorem cnode_eq (p : api_Program) (L : List api_ControlNode) {n : Int} (h0 : 0 ≤ n) (hn : n < L.length) : control_checkNode p (ix L n) (tbs (L.take n.toNat)) = ref20_checkNode p L n := by
  unfold control_checkNode ref20_checkNode
  simp only [LET, ab_eq L h0 (by omega), rCheck_eq]
  generalize ix L n = x
  generalize tbs (L.take n.toNat) = u
  have hL := cn_L1 x u (fun _ => if ((decide (x.Kind = 1)) && (decide (0 < (wr ((x.Then.length : Int) + (x.Else.length : Int)))))) = true then 5 else 0) (Int.toNat ((u.length : Int) - 0)) 0 rfl (by omega)
  rw [hL]
  have h1 : ∀ k : Int, k = 1 ∨ k = 2 ∨ k = 3 ∨ (k < 1 ∨ 3 < k) := fun k => by omega
  rcases h1 x.Kind with h | h | h | h
  · simp [h]
  · simp only [h]
    by_cases he : (expr_Check x.Cond { Program := p, Params := [] }).2 = 0
    · by_cases hw : (expr_Check x.Cond { Program := p, Params := [] }).1 = 1
      · simp [he, hw]
      · simp [he, hw]
    · simp [he]
  · simp [h]
  · have e1 : ¬x.Kind = 1 := by omega
    have e2 : ¬x.Kind = 2 := by omega
    have e3 : ¬x.Kind = 3 := by omega
    have e4 : (decide (x.Kind < 1) || decide (3 < x.Kind)) = true := by simpa using h
    simp [e1, e2, e3, e4]
theorem check_run (p : api_Program) (L : List api_ControlNode) (hs : L.length ≤ 1000) : ∀ (m : Nat) (n : Int), m = Int.toNat ((L.length : Int) - n) → 0 ≤ n → n ≤ L.length →
      (if (!decide ((runS (fun a_ s_ => control_Check_1 a_ p s_.1 s_.2.1 s_.2.2) (L.drop n.toNat) (tbs (L.take n.toNat), 0, n)).2.2.1 = 0)) = true then ((runS (fun a_ s_ => control_Check_1 a_ p s_.1 s_.2.1 s_.2.2) (L.drop n.toNat) (tbs (L.take n.toNat), 0, n)).2.2.2, (runS (fun a_ s_ => control_Check_1 a_ p s_.1 s_.2.1 s_.2.2) (L.drop n.toNat) (tbs (L.take n.toNat), 0, n)).2.2.1) else ((0 : Int), (0 : Int))) = ref20_Check_L1 p L (fun _ => (0, 0)) m n
  | 0, n, hm, h0, h1 => by
    rw [ref20_Check_L1, drop_end (by omega), runS, if_neg (by simp)]
  | m + 1, n, hm, h0, h1 => by
    have hlt : n < L.length := by omega
    have ih := check_run p L hs m (n + 1) (by omega) (by omega) (by omega)
    rw [ref20_Check_L1, drop_ix (c := L) (i := n) h0 hlt, runS]
    simp only [LET]
    have hc := cnode_eq p L h0 hlt
    have ht : tbs (L.take (n + 1).toNat) = if control_applies (ix L n) = true then tbs (L.take n.toNat) ++ [(ix L n).Table] else tbs (L.take n.toNat) := by
      rw [show (n + 1).toNat = n.toNat + 1 by omega, List.take_succ_eq_append_getElem (by omega)]
      have e : L[n.toNat]'(by omega) = ix L n := (ix_lt h0 hlt).symm
      rw [e]
      unfold tbs
      rw [List.filter_append, List.map_append, List.filter_cons]
      split <;> simp
    have hst : control_Check_1 (ix L n) p (tbs (L.take n.toNat)) 0 n = if ref20_checkNode p L n = 0 then (true, tbs (L.take (n + 1).toNat), 0, n + 1) else (false, tbs (L.take n.toNat), ref20_checkNode p L n, n) := by
      unfold control_Check_1
      simp only [LET, hc, ht]
      rw [wr_of (by omega) (by omega)]
      by_cases hz : ref20_checkNode p L n = 0
      · rw [if_neg (by simp [hz]), if_pos hz, hz]
        split <;> rfl
      · rw [if_pos (by simp [hz]), if_neg hz]
    simp only [hst]
    by_cases hz : ref20_checkNode p L n = 0
    · simp only [hz, if_true, decide_true, Bool.not_true, Bool.false_eq_true, if_false]
      exact ih
    · simp only [hz, if_false, Bool.false_eq_true]
      rfl
theorem Check_eq {p : api_Program} (hs : csl p.Control ≤ 1000) : control_Check p = ref20_Check p := by
  unfold control_Check ref20_Check
  simp only [LET, count_eq hs, refcount_eq hs, (nest_eq hs).1, pre_run, refpre_eq]
  split
  · rfl
  split
  · rfl
  have := check_run p (poL p.Control) (by rw [poL_len]; exact hs) (Int.toNat (((poL p.Control).length : Int) - 0)) 0 rfl (by omega) (by omega)
  simpa [tbs] using this
def uU (k t : Int) (c : List api_ExprNode) (g : List api_Guard) : api_Unit := if k = 2 then { Table := -1, Cond := c, Guards := g } else { Table := t, Cond := [], Guards := g }
mutual
def cuN (o : Nat) (g : List api_Guard) : api_ControlNode → List api_Unit
  | ⟨k, t, c, th, el⟩ => uU k t c g :: (cuL (o + 1) (g ++ [{ Unit := (o : Int), Want := true }]) th ++ cuL (o + 1 + csl th) (g ++ [{ Unit := (o : Int), Want := false }]) el)
/-- The units of a list of nodes, the first of them numbered o, under some guards. -/
def cuL (o : Nat) (g : List api_Guard) : List api_ControlNode → List api_Unit
  | [] => []
  | x :: l => cuN o g x ++ cuL (o + csn x) g l
end
theorem cuN_eq (o : Nat) (g : List api_Guard) (x : api_ControlNode) : cuN o g x = uU x.Kind x.Table x.Cond g :: (cuL (o + 1) (g ++ [{ Unit := (o : Int), Want := true }]) x.Then ++ cuL (o + 1 + csl x.Then) (g ++ [{ Unit := (o : Int), Want := false }]) x.Else) := by
  cases x
  rw [cuN]
mutual
theorem cuN_len : ∀ (x : api_ControlNode) (o : Nat) (g : List api_Guard), (cuN o g x).length = csn x
  | ⟨k, t, c, th, el⟩, o, g => by
    rw [cuN, csn, List.length_cons, List.length_append, cuL_len th, cuL_len el]
    omega
theorem cuL_len : ∀ (l : List api_ControlNode) (o : Nat) (g : List api_Guard), (cuL o g l).length = csl l
  | [], o, g => by rw [cuL, csl]; rfl
  | x :: l, o, g => by rw [cuL, csl, List.length_append, cuN_len x, cuL_len l]
end
theorem collect_cu1 (x1 : List api_ControlNode) (x2 : List api_Guard) (rec_ : List api_Unit → List api_ControlNode → List api_Guard → List api_Unit) (hr : ∀ z l g, csl l < csl x1 → rec_ z l g = z ++ cuL z.length g l) :
    ∀ (m : Nat) (i : Int) (z : List api_Unit), m = Int.toNat ((x1.length : Int) - i) → 0 ≤ i → ref32_collect_L1 x1 x2 rec_ (fun z => z) m i z = z ++ cuL z.length x2 (x1.drop i.toNat)
  | 0, i, z, hm, h0 => by rw [ref32_collect_L1, drop_end (by omega), cuL, List.append_nil]
  | m + 1, i, z, hm, h0 => by
    have hlt := csl_ix (l := x1) (i := i) h0 (by omega)
    have key : ∀ u : api_Unit, u = uU (ix x1 i).Kind (ix x1 i).Table (ix x1 i).Cond x2 → ref32_collect_L1 x1 x2 rec_ (fun z => z) m (i + 1) (rec_ (rec_ (z ++ [u]) (ix x1 i).Then (ref32_under x2 z.length true)) (ix x1 i).Else (ref32_under x2 z.length false)) = z ++ cuL z.length x2 (x1.drop i.toNat) := by
      intro u hu
      rw [collect_cu1 x1 x2 rec_ hr m (i + 1) _ (by omega) (by omega), hr _ _ _ hlt.2, hr _ _ _ hlt.1, drop_ix h0 (by omega), cuL, cuN_eq, csn_eq, hu]
      simp only [ref32_under, List.length_append, List.length_cons, List.length_nil, cuL_len, List.append_assoc, List.cons_append, List.nil_append]
      rw [show z.length + (csl (ix x1 i).Then + 1) = z.length + 1 + csl (ix x1 i).Then by omega, show z.length + (csl (ix x1 i).Then + csl (ix x1 i).Else + 1) = z.length + (1 + csl (ix x1 i).Then + csl (ix x1 i).Else) by omega]
    rw [ref32_collect_L1]
    simp only [LET]
    split
    · rename_i hk
      simp only [decide_eq_true_eq] at hk
      exact key _ (by rw [uU, if_pos hk])
    · rename_i hk
      simp only [decide_eq_true_eq] at hk
      exact key _ (by rw [uU, if_neg hk])
theorem collect_cu : ∀ (k : Nat) (z : List api_Unit) (l : List api_ControlNode) (g : List api_Guard), csl l < k → ref32_collect_R k z l g = z ++ cuL z.length g l
  | 0, z, l, g, h => absurd h (Nat.not_lt_zero _)
  | k + 1, z, l, g, h => by
    rw [ref32_collect_R]
    unfold ref32_collect_B
    exact collect_cu1 l g _ (fun z y g hy => collect_cu k z y g (by omega)) _ 0 z rfl (by omega)
theorem build_cu1 (x0 : List api_ControlNode) (x1 : List api_Guard) (rec_ : List api_ControlNode → List api_Guard → List api_Unit → List api_Unit) (hr : ∀ l g z, csl l < csl x0 → rec_ l g z = z ++ cuL z.length g l) :
    ∀ (m : Nat) (i : Int) (z : List api_Unit), m = Int.toNat ((x0.length : Int) - i) → 0 ≤ i → units_Build_1_L1 x0 x1 rec_ (fun z => z) m i z = z ++ cuL z.length x1 (x0.drop i.toNat)
  | 0, i, z, hm, h0 => by rw [units_Build_1_L1, drop_end (by omega), cuL, List.append_nil]
  | m + 1, i, z, hm, h0 => by
    have hlt := csl_ix (l := x0) (i := i) h0 (by omega)
    have key : ∀ u : api_Unit, u = uU (ix x0 i).Kind (ix x0 i).Table (ix x0 i).Cond x1 → units_Build_1_L1 x0 x1 rec_ (fun z => z) m (i + 1) (rec_ (ix x0 i).Else (units_Build_1_1 false x1 z.length) (rec_ (ix x0 i).Then (units_Build_1_1 true x1 z.length) (z ++ [u]))) = z ++ cuL z.length x1 (x0.drop i.toNat) := by
      intro u hu
      rw [build_cu1 x0 x1 rec_ hr m (i + 1) _ (by omega) (by omega), hr _ _ _ hlt.2, hr _ _ _ hlt.1, drop_ix h0 (by omega), cuL, cuN_eq, csn_eq, hu]
      simp only [units_Build_1_1, slices_Clone__api_Guard_api_Guard_, LET, List.length_append, List.length_cons, List.length_nil, cuL_len, List.append_assoc, List.cons_append, List.nil_append]
      rw [show z.length + (csl (ix x0 i).Then + 1) = z.length + 1 + csl (ix x0 i).Then by omega, show z.length + (csl (ix x0 i).Then + csl (ix x0 i).Else + 1) = z.length + (1 + csl (ix x0 i).Then + csl (ix x0 i).Else) by omega]
    rw [units_Build_1_L1]
    simp only [LET]
    split
    · rename_i hk
      simp only [decide_eq_true_eq] at hk
      exact key _ (by rw [uU, if_pos hk]; rfl)
    · rename_i hk
      simp only [decide_eq_true_eq] at hk
      exact key _ (by rw [uU, if_neg hk]; rfl)
theorem build_cu : ∀ (k : Nat) (l : List api_ControlNode) (g : List api_Guard) (z : List api_Unit), csl l < k → units_Build_1_R k l g z = z ++ cuL z.length g l
  | 0, l, g, z, h => absurd h (Nat.not_lt_zero _)
  | k + 1, l, g, z, h => by
    rw [units_Build_1_R]
    unfold units_Build_1_B
    exact build_cu1 l g _ (fun y g z hy => build_cu k y g z (by omega)) _ 0 z rfl (by omega)
theorem build_eq {p : api_Program} (hs : csl p.Control ≤ 1000) : units_Build p = if (ref20_Check p).2 = 0 then cuL 0 [] p.Control else [] := by
  unfold units_Build
  simp only [LET, Check_eq hs, units_Build_1]
  rw [build_cu _ _ _ _ (Nat.lt_succ_self _)]
  by_cases h : (ref20_Check p).2 = 0
  · simp [h]
  · simp [h]
theorem rbuild_eq {p : api_Program} : ref32_Build p = if (ref20_Check p).2 = 0 then cuL 0 [] p.Control else [] := by
  unfold ref32_Build
  simp only [LET, ref32_collect]
  rw [collect_cu _ _ _ _ (Nat.lt_succ_self _)]
  by_cases h : (ref20_Check p).2 = 0
  · simp [h]
  · simp [h]
theorem uqnodes_L1 (l : List api_ExprNode) : ∀ (m : Nat) (i : Int), ref13_EqualNodes_L1 l l (fun _ => true) m i = true
  | 0, i => by rw [ref13_EqualNodes_L1]
  | m + 1, i => by
    rw [ref13_EqualNodes_L1]
    simp only [LET, decide_true, Bool.not_true, Bool.false_eq_true, if_false]
    exact uqnodes_L1 l m _
theorem uqnodes_refl (l : List api_ExprNode) : ref13_EqualNodes l l = true := by
  unfold ref13_EqualNodes
  rw [if_neg (by simp)]
  exact uqnodes_L1 l _ _
theorem equnits_L2 (a : List api_Unit) (x : Int) (K : Unit → Bool) (hK : K () = true) : ∀ (m : Nat) (i : Int), ref32_EqualUnits_L2 a a x K m i = true
  | 0, i => by rw [ref32_EqualUnits_L2]; exact hK
  | m + 1, i => by
    rw [ref32_EqualUnits_L2, if_neg (by simp)]
    exact equnits_L2 a x K hK m _
theorem equnits_L1 (a : List api_Unit) : ∀ (m : Nat) (i : Int), ref32_EqualUnits_L1 a a (fun _ => true) m i = true
  | 0, i => by rw [ref32_EqualUnits_L1]
  | m + 1, i => by
    rw [ref32_EqualUnits_L1, if_neg (by simp [uqnodes_refl])]
    exact equnits_L2 a _ _ (equnits_L1 a m _) _ _
theorem equnits_refl (a : List api_Unit) : ref32_EqualUnits a a = true := by
  unfold ref32_EqualUnits
  rw [if_neg (by simp)]
  exact equnits_L1 a _ _
theorem UnitsBuild_law (x0 : api_Program) (hbu : btl x0.Control ≤ 1048576) : law32_UnitsBuild x0 = true := by
  unfold law32_UnitsBuild
  simp only [LET]
  split
  · rfl
  · rename_i h
    have hs := sm_csl (p := x0) rfl (by simpa using h) hbu
    rw [build_eq (by omega), rbuild_eq, equnits_refl]
    rfl
def bitU (bits : List Bool) (u : Int) : Bool := decide (0 ≤ u) && decide (u < (bits.length : Int)) && ix bits u
/-- Do all guards hold? -/
def satG (bits : List Bool) (g : List api_Guard) : Bool := g.all fun q => decide (bitU bits q.Unit = q.Want)
theorem satG_app (bits : List Bool) (g : List api_Guard) (q : api_Guard) : satG bits (g ++ [q]) = (satG bits g && decide (bitU bits q.Unit = q.Want)) := by
  simp [satG]
theorem bitU_nat (bits : List Bool) {c : Int} (h : 0 ≤ c) : bitU bits c = (decide (c < (bits.length : Int)) && ix bits c) := by
  unfold bitU
  rw [decide_eq_true h, Bool.true_and]
theorem uU_g (k t : Int) (c : List api_ExprNode) (g : List api_Guard) : (uU k t c g).Guards = g := by unfold uU; split <;> rfl
theorem visit_cu1 (x1 : List api_ControlNode) (bits : List Bool) (g : List api_Guard) (rec_ : List Bool → List api_ControlNode → List Bool → Int → Bool → List Bool × Int)
    (hr : ∀ (z : List Bool) (l : List api_ControlNode) (o : Nat) (g : List api_Guard), csl l < csl x1 → o + csl l ≤ 1000000 → rec_ z l bits o (satG bits g) = (z ++ (cuL o g l).map (fun u => satG bits u.Guards), ((o + csl l : Nat) : Int))) :
    ∀ (m : Nat) (o : Nat) (i : Int) (z : List Bool), m = Int.toNat ((x1.length : Int) - i) → 0 ≤ i → o + csl (x1.drop i.toNat) ≤ 1000000 →
      law32_visit_L1 x1 bits (satG bits g) rec_ (fun a b => (b, a)) m o i z = (z ++ (cuL o g (x1.drop i.toNat)).map (fun u => satG bits u.Guards), ((o + csl (x1.drop i.toNat) : Nat) : Int))
  | 0, o, i, z, hm, h0, hb => by rw [law32_visit_L1, drop_end (by omega), cuL, csl]; simp
  | m + 1, o, i, z, hm, h0, hb => by
    have hlt := csl_ix (l := x1) (i := i) h0 (by omega)
    have hd := csl_drop (l := x1) (i := i) h0 (by omega)
    have hw : wr ((o : Int) + 1) = ((o + 1 : Nat) : Int) := by rw [wr_of (by omega) (by omega)]; omega
    have e1 : (satG bits g && (decide ((o : Int) < (bits.length : Int)) && ix bits (o : Int))) = satG bits (g ++ [{ Unit := (o : Int), Want := true }]) := by
      rw [satG_app, ← bitU_nat bits (by omega)]
      cases bitU bits o <;> rfl
    have e2 : (satG bits g && !(decide ((o : Int) < (bits.length : Int)) && ix bits (o : Int))) = satG bits (g ++ [{ Unit := (o : Int), Want := false }]) := by
      rw [satG_app, ← bitU_nat bits (by omega)]
      cases bitU bits o <;> rfl
    rw [law32_visit_L1]
    simp only [LET]
    rw [hw, e1, e2, hr _ _ _ _ hlt.1 (by omega)]
    simp only
    rw [hr _ _ _ _ hlt.2 (by omega)]
    simp only
    rw [visit_cu1 x1 bits g rec_ hr m (o + 1 + csl (ix x1 i).Then + csl (ix x1 i).Else) (i + 1) _ (by omega) (by omega) (by omega), drop_ix h0 (by omega), cuL, csl, cuN_eq, csn_eq]
    have a1 : o + 1 + csl (ix x1 i).Then + csl (ix x1 i).Else = o + (1 + csl (ix x1 i).Then + csl (ix x1 i).Else) := by omega
    have a2 : o + 1 + csl (ix x1 i).Then + csl (ix x1 i).Else + csl (x1.drop (i + 1).toNat) = o + (1 + csl (ix x1 i).Then + csl (ix x1 i).Else + csl (x1.drop (i + 1).toNat)) := by omega
    rw [a2, a1]
    simp only [List.map_append, List.map_cons, List.map_nil, uU_g, List.append_assoc, List.cons_append, List.nil_append]
theorem visit_cu : ∀ (k : Nat) (bits : List Bool) (z : List Bool) (l : List api_ControlNode) (o : Nat) (g : List api_Guard), csl l < k → o + csl l ≤ 1000000 → law32_visit_R k z l bits o (satG bits g) = (z ++ (cuL o g l).map (fun u => satG bits u.Guards), ((o + csl l : Nat) : Int))
  | 0, bits, z, l, o, g, h, hb => absurd h (Nat.not_lt_zero _)
  | k + 1, bits, z, l, o, g, h, hb => by
    rw [law32_visit_R]
    unfold law32_visit_B
    exact visit_cu1 l bits g _ (fun z y o g hy hb => visit_cu k bits z y o g (by omega) hb) _ o 0 z rfl (by omega) hb
theorem exec_L1 (l : List api_Unit) (bits : List Bool) (x : Int) : ∀ (m : Nat) (i : Int), m = Int.toNat (((ix l x).Guards.length : Int) - i) → 0 ≤ i → units_Executes_L1 l bits x (fun _ => true) m i = satG bits ((ix l x).Guards.drop i.toNat)
  | 0, i, hm, h0 => by rw [units_Executes_L1, List.drop_eq_nil_of_le (by omega)]; rfl
  | m + 1, i, hm, h0 => by
    have hlt : i < (ix l x).Guards.length := by omega
    rw [units_Executes_L1, drop_ix h0 hlt]
    have e : satG bits (ix (ix l x).Guards i :: (ix l x).Guards.drop (i + 1).toNat) = (decide (bitU bits (ix (ix l x).Guards i).Unit = (ix (ix l x).Guards i).Want) && satG bits ((ix l x).Guards.drop (i + 1).toNat)) := by simp [satG]
    rw [e]
    unfold bitU
    split
    · rename_i hc
      simp only [Bool.not_eq_true', decide_eq_false_iff_not] at hc
      rw [decide_eq_false hc, Bool.false_and]
    · rename_i hc
      simp only [Bool.not_eq_true', decide_eq_false_iff_not, Decidable.not_not] at hc
      rw [decide_eq_true hc, Bool.true_and]
      exact exec_L1 l bits x m (i + 1) (by omega) (by omega)
theorem exec_eq (l : List api_Unit) (bits : List Bool) {x : Int} (h0 : 0 ≤ x) (h1 : x < l.length) : units_Executes l bits x = satG bits (ix l x).Guards := by
  unfold units_Executes
  rw [if_neg (by simp; omega)]
  exact exec_L1 l bits x _ 0 rfl (by omega)
theorem walk_L1 (bits : List Bool) (l : List api_Unit) (y : List Bool × Int) (hy : y.1 = l.map fun u => satG bits u.Guards) (hn : y.2 = (l.length : Int)) : ∀ (m : Nat) (i : Int), m = Int.toNat (y.2 - i) → 0 ≤ i → law32_UnitsWalk_L1 bits l y (fun _ => true) m i = true
  | 0, i, hm, h0 => by rw [law32_UnitsWalk_L1]
  | m + 1, i, hm, h0 => by
    have hlt : i < l.length := by omega
    rw [law32_UnitsWalk_L1]
    simp only [LET]
    rw [exec_eq l bits h0 hlt]
    have e : ix y.1 i = satG bits (ix l i).Guards := by
      rw [ix_lt (l := y.1) h0 (by rw [hy, List.length_map]; exact hlt), ix_lt (l := l) h0 hlt]
      simp only [hy, List.getElem_map]
    rw [e, if_neg (by simp)]
    exact walk_L1 bits l y hy hn m (i + 1) (by omega) (by omega)
theorem UnitsWalk_law (x0 : api_Program) (x1 : List Bool) (hbu : btl x0.Control ≤ 1048576) : law32_UnitsWalk x0 x1 = true := by
  unfold law32_UnitsWalk
  simp only [LET]
  split
  · rfl
  · rename_i h
    have hs := sm_csl (p := x0) rfl (by simpa using h) hbu
    rw [build_eq (by omega)]
    by_cases hc : (ref20_Check x0).2 = 0
    · rw [if_pos hc]
      have hv : law32_visit [] x0.Control x1 0 true = ((cuL 0 [] x0.Control).map (fun u => satG x1 u.Guards), ((0 + csl x0.Control : Nat) : Int)) := by
        have := visit_cu (csl x0.Control + 1) x1 [] x0.Control 0 [] (Nat.lt_succ_self _) (by omega)
        rw [List.nil_append] at this
        exact this
      rw [hv]
      split
      · rfl
      · have hl := cuL_len x0.Control 0 []
        rw [if_neg (by simp [hl])]
        exact walk_L1 x1 _ _ rfl (by simp [hl]) _ 0 rfl (by omega)
    · rw [if_neg hc]
      rfl
end Go.Proofs.Ytkgnjpoafilicaa
