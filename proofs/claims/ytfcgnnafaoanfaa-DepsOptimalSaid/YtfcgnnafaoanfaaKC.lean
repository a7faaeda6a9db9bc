/-
  What the functions of this seat compute, for every input that fits.
-/
import Derived.Test.YtfcgnnafaoanfaaKB
set_option linter.unusedVariables false
set_option linter.unusedSimpArgs false
set_option maxRecDepth 20000
namespace Go.Proofs.Ytfcgnnafaoanfaa
open Go Go.Pb Go.RowKit

/-- The memory of 'follows' while row i is being filled. -/
structure Mem (d : List (List Int)) (n i : Nat) (h : Heap) (F G : Nat → PV) (r o : Nat → Bool) : Prop where
  len : hlen h = 4 + 2 * i
  nv : h.nv = 4 + 2 * i
  b0 : blk h (0) = some (.cells 0 32 true (tab n F))
  b1 : blk h (1) = some (.cells 1 32 true (tab n G))
  f1 : ∀ m, one (F m) = true
  g1 : ∀ m, one (G m) = true
  fi : F i = .os (2 + 2 * i) (2 + 2 * i) 0 n
  gm : ∀ m, m ≤ i → G m = .os (3 + 2 * m) (3 + 2 * m) 0 n
  br : blk h (2 + 2 * i) = some (.cells (2 + 2 * i) 4 true (tab n fun m => vb (r m)))
  bo : blk h (3 + 2 * i) = some (.cells (3 + 2 * i) 4 true (tab n fun m => vb (o m)))
  done : ∀ m, m < i → blk h (3 + 2 * m) = some (.cells (3 + 2 * m) 4 true (tab n fun j => vb (tb (Lat d m j))))
theorem Mem.setR {d : List (List Int)} {n i : Nat} {h : Heap} {F G : Nat → PV} {r o : Nat → Bool} (M : Mem d n i h F G r o) (j : Nat) (c : Bool) :
    Mem d n i (hput h (2 + 2 * i) (.cells (2 + 2 * i) 4 true (tab n (updF (fun m => vb (r m)) j (vb c))))) F G (updF r j c) o := by
  have hl := M.len
  refine ⟨by simpa using M.len, M.nv, ?_, ?_, M.f1, M.g1, M.fi, M.gm, ?_, ?_, fun m hm => ?_⟩
  · rw [blk_put_ne _ _ _ _ (by omega)]; exact M.b0
  · rw [blk_put_ne _ _ _ _ (by omega)]; exact M.b1
  · rw [blk_put _ _ _ (by omega), updF_comp]
  · rw [blk_put_ne _ _ _ _ (by omega)]; exact M.bo
  · rw [blk_put_ne _ _ _ _ (by omega)]; exact M.done m hm
theorem Mem.setO {d : List (List Int)} {n i : Nat} {h : Heap} {F G : Nat → PV} {r o : Nat → Bool} (M : Mem d n i h F G r o) (j : Nat) (c : Bool) :
    Mem d n i (hput h (3 + 2 * i) (.cells (3 + 2 * i) 4 true (tab n (updF (fun m => vb (o m)) j (vb c))))) F G r (updF o j c) := by
  have hl := M.len
  refine ⟨by simpa using M.len, M.nv, ?_, ?_, M.f1, M.g1, M.fi, M.gm, ?_, ?_, fun m hm => ?_⟩
  · rw [blk_put_ne _ _ _ _ (by omega)]; exact M.b0
  · rw [blk_put_ne _ _ _ _ (by omega)]; exact M.b1
  · rw [blk_put_ne _ _ _ _ (by omega)]; exact M.br
  · rw [blk_put _ _ _ (by omega), updF_comp]
  · rw [blk_put_ne _ _ _ _ (by omega)]; exact M.done m hm

/-- Between the rows. -/
structure Mem0 (d : List (List Int)) (n i : Nat) (h : Heap) (F G : Nat → PV) : Prop where
  len : hlen h = 2 + 2 * i
  nv : h.nv = 2 + 2 * i
  b0 : blk h (0) = some (.cells 0 32 true (tab n F))
  b1 : blk h (1) = some (.cells 1 32 true (tab n G))
  f1 : ∀ m, one (F m) = true
  g1 : ∀ m, one (G m) = true
  gm : ∀ m, m < i → G m = .os (3 + 2 * m) (3 + 2 * m) 0 n
  done : ∀ m, m < i → blk h (3 + 2 * m) = some (.cells (3 + 2 * m) 4 true (tab n fun j => vb (tb (Lat d m j))))
theorem Mem.close {d : List (List Int)} {n i : Nat} {h : Heap} {F G : Nat → PV} {r o : Nat → Bool} (M : Mem d n i h F G r o) (ho : ∀ m, m < n → o m = tb (Lat d i m)) : Mem0 d n (i + 1) h F G := by
  refine ⟨by have := M.len; omega, by have := M.nv; omega, M.b0, M.b1, M.f1, M.g1, fun m hm => M.gm m (by omega), fun m hm => ?_⟩
  by_cases e : m = i
  · subst e
    rw [M.bo, tab_congr fun k hk => by rw [ho k hk]]
  · exact M.done m (by omega)

set_option maxHeartbeats 4000000 in
theorem follows_fn {d : List (List Int)} {v : PV} (hv : IsM d v) (hs : d.length < 1000000) : FnR Try.prog 17 [v] (.fs false (tab d.length fun i => laterRow d i)) := by
  refine FnR.mk text17 (by simp) ?_
  have ld := SlOf.len hv Try.underlying22
  rw [go_in, args_1]
  unfold ac17
  have hf24 := fits_small (m := d.length) (bytes := 24) (by omega) (by omega)
  have hf1 := fits_small (m := d.length) (bytes := 1) (by omega) (by omega)
  simp [ld, hf24]
  refine rounds (fun N T h => ∃ i F G, i ≤ d.length ∧ N = d.length - i ∧ Mem0 d d.length i h F G ∧ T 0 = v ∧ T 3 = vi d.length ∧ T 4 = .os 0 0 0 d.length ∧ T 5 = .os 1 1 0 d.length ∧ T 15 = vi d.length ∧ T 16 = vi i) d.length ⟨0, fun _ => nilS, fun _ => nilS, by omega, by omega, ⟨rfl, rfl, rfl, rfl, fun _ => rfl, fun _ => rfl, by omega, by omega⟩, ?_⟩ ?_
  · simp
  rintro N R hR T h ⟨i, F, G, hi, rfl, M, h0, h3, h4, h5, h15, h16⟩
  by_cases hlt : i < d.length
  · have q1 : (0 : Nat) < 2 + 2 * i := by omega
    have q2 : (1 : Nat) < 2 + 2 * i := by omega
    have q3 : (2 : Nat) + 2 * i + 1 = 3 + 2 * i := by omega
    have p1 : (0 : Nat) < 3 + 2 * i := by omega
    have p2 : (1 : Nat) < 3 + 2 * i := by omega
    have p3 : (2 : Nat) + 2 * i < 3 + 2 * i := by omega
    have p4 : ¬(0 = 2 + 2 * i) := by omega
    have p9 : ¬(2 + 2 * i = 1) := by omega
    have p8 : (2 : Nat) + 2 * i < 3 + 2 * i + 1 := by omega
    have p5 : ¬(1 = 2 + 2 * i) := by omega
    have p6 : ¬(0 = 3 + 2 * i) := by omega
    have p7 : ¬(1 = 3 + 2 * i) := by omega
    have wi := wrap_i64 (n := (i : Int) + 1) (by omega) (by omega)
    simp [h0, h3, h4, h5, h15, h16, hlt, hf1, M.len, M.nv, q1, q2, q3, p1, p2, p3, p4, p5, p6, p7, p8, p9, M.b0, M.b1]
    refine rounds (fun N T h => ∃ j F G r o, j ≤ d.length ∧ N = d.length - j ∧ Mem d d.length i h F G r o ∧ FInv d d.length i j 0 r o ∧ T 0 = v ∧ T 3 = vi d.length ∧ T 4 = .os 0 0 0 d.length ∧ T 5 = .os 1 1 0 d.length ∧ T 15 = vi d.length ∧ T 16 = vi i ∧ T 6 = vi i ∧ T 35 = vi d.length ∧ T 36 = vi j) d.length ⟨0, updF F i (.os (2 + 2 * i) (2 + 2 * i) 0 d.length), updF G i (.os (3 + 2 * i) (3 + 2 * i) 0 d.length), updF (fun _ => false) i true, fun _ => false, by omega, by omega, ?_, ?_, ?_⟩ ?_
    · have hl := M.len
      refine ⟨by simp [M.len, q3]; omega, by simp [M.nv, q3]; omega, ?_, ?_, fun m => ?_, fun m => ?_, by simp, fun m hm => ?_, ?_, ?_, fun m hm => ?_⟩
      · simp [M.len, q1, q2, q3, p1, p2, p3, p4, p5, p6, p7, p8, p9, M.b0]
      · simp [M.len, q1, q2, q3, p1, p2, p3, p4, p5, p6, p7, p8, p9, M.b1]
      · by_cases e : m = i
        · rw [e, updF_eq]; rfl
        · rw [updF_ne e]; exact M.f1 m
      · by_cases e : m = i
        · rw [e, updF_eq]; rfl
        · rw [updF_ne e]; exact M.g1 m
      · by_cases e : m = i
        · subst e; simp
        · rw [updF_ne e]; exact M.gm m (by omega)
      · simp [M.len, q1, q2, q3, p1, p2, p3, p4, p5, p6, p7, p8, p9, updF_comp]
      · simp [M.len, q1, q2, q3, p1, p2, p3, p4, p5, p6, p7, p8, p9]
      · have := M.done m hm
        have e1 : ¬0 = 3 + 2 * m := by omega
        have e2 : ¬1 = 3 + 2 * m := by omega
        have e3 : ¬2 + 2 * i = 3 + 2 * m := by omega
        have e4 : 3 + 2 * m < 2 + 2 * i + 1 := by omega
        have e5 : 3 + 2 * m < 2 + 2 * i := by omega
        simp [M.len, q1, q2, q3, p1, p2, p3, p4, p5, p6, p7, p8, p9, e1, e2, e3, e4, e5, hm, this]
    · refine ⟨fun m hm => by omega, fun m hm => ?_, ?_, ?_⟩
      · by_cases e : m = i
        · subst e; simp
        · simp [updF, e]
      · by_cases e : i = 0
        · subst e; rw [updF_eq, tb_true (.inl rfl)]
        · rw [updF_ne (fun e' => e e'.symm), tb_false]
          rintro (h | ⟨m, h, _⟩) <;> omega
      · rw [tb_false]
        rintro ⟨m, h, _⟩; omega
    · simp [h0, h3, h4, h5, h15, h16]
    rintro N' R' hR' T h ⟨j, F, G, r, o, hj, rfl, M, hF, h0, h3, h4, h5, h15, h16, h6, h35, h36⟩
    by_cases hlt2 : j < d.length
    · simp [h0, h3, h4, h5, h15, h16, h6, h35, h36, hlt2]
      refine rounds (fun N T h => ∃ k F G r o, k ≤ j ∧ N = j - k ∧ Mem d d.length i h F G r o ∧ FInv d d.length i j k r o ∧ T 0 = v ∧ T 3 = vi d.length ∧ T 4 = .os 0 0 0 d.length ∧ T 5 = .os 1 1 0 d.length ∧ T 15 = vi d.length ∧ T 16 = vi i ∧ T 6 = vi i ∧ T 35 = vi d.length ∧ T 36 = vi j ∧ T 7 = vi j ∧ T 39 = vi j ∧ T 40 = vi k) j ⟨0, F, G, r, o, by omega, by omega, M, hF, ?_⟩ ?_
      · simp [h0, h3, h4, h5, h15, h16, h6, h35, h36]
      rintro N'' R'' hR'' T h ⟨k, F, G, r, o, hk, rfl, M, hF, h0, h3, h4, h5, h15, h16, h6, h35, h36, h7, h39, h40⟩
      by_cases hlt3 : k < j
      · have hkn : k < d.length := by omega
        have hca : closedL [v, vi k, vi j] = true := by simp [closedL, closed, IsM.closed _ _ hv]
        have w2 := wrap_i64 (n := (k : Int) + 1) (by omega) (by omega)
        have fin : ∀ r' o', (∀ m, m ≠ j → r' m = r m) → (∀ m, m ≠ j → o' m = o m) → r' j = (r j || (r k && decide (kindL d k j ≠ 0))) → o' j = (o j || (r k && decide (kindL d k j = 2)) || (o k && decide (kindL d k j ≠ 0))) → FInv d d.length i j (k + 1) r' o' := fun r' o' a b c e => hF.step a b c e hlt3
        have hko : o k = true → r k = true := fun h => by
          rw [(hF.at0 hlt3).2, tb_iff] at h
          rw [(hF.at0 hlt3).1, tb_iff]
          exact h.rch.1
        have hl := M.len
        have q1 : ¬(2 + 2 * i = 1) := by omega
        have q2 : ¬(2 + 2 * i = 0) := by omega
        have q3 : ¬(3 + 2 * i = 1) := by omega
        have q4 : ¬(3 + 2 * i = 0) := by omega
        have q5 : ¬(2 + 2 * i = 3 + 2 * i) := by omega
        have q6 : ¬(3 + 2 * i = 2 + 2 * i) := by omega
        have q7 : 2 + 2 * i < hlen h := by omega
        have q8 : 3 + 2 * i < hlen h := by omega
        have hkj : ¬k = j := by omega
        have fi1 := M.f1 i
        have gi1 := M.g1 i
        have gi := M.gm i (Nat.le_refl i)
        have bf : F i = .os (2 + 2 * i) (2 + 2 * i) 0 d.length := M.fi
        simp [h0, h3, h4, h5, h15, h16, h6, h35, h36, h7, h39, h40, hlt3]
        refine k_of (kind_fn hv hkn) hca ?_
        rcases kind_cases d k j with k0 | k0 | k0
        · simp [h0, h3, h4, h5, h15, h16, h6, h35, h36, h7, h39, h40, hlt, hlt2, hlt3, hkn, w2, k0]
          exact hR'' (j - (k + 1)) _ _ (by omega) ⟨k + 1, F, G, r, o, by omega, rfl, M, fin r o (fun _ _ => rfl) (fun _ _ => rfl) (by simp [k0]) (by simp [k0]), by simp [h0, h3, h4, h5, h15, h16, h6, h35, h36, h7, h39]⟩
        · have key : ∀ c c', c = (r j || r k) → c' = (o j || o k) → FInv d d.length i j (k + 1) (updF r j c) (updF o j c') := fun c c' hc hc' =>
            fin _ _ (fun m hm => updF_ne hm) (fun m hm => updF_ne hm) (by simp [updF_eq, k0, hc]) (by simp [updF_eq, k0, hc'])
          cases hrj : r j <;> cases hrk : r k <;> cases hoj : o j <;> cases hok : o k <;> simp [h0, h3, h4, h5, h15, h16, h6, h35, h36, h7, h39, h40, hlt, hlt2, hlt3, hkn, w2, k0, M.b0, M.b1, M.br, M.bo, q1, q2, q3, q4, q5, q6, q7, q8, bf, gi, hrj, hrk, hoj, hok, hkj] <;>
            exact hR'' (j - (k + 1)) _ _ (by omega) ⟨k + 1, F, G, _, _, by omega, rfl, (M.setR j _).setO j _, key _ _ (by simp [hrj, hrk]) (by simp [hoj, hok]), by simp [h0, h3, h4, h5, h15, h16, h6, h35, h36, h7, h39]⟩
        · have key : ∀ c c', c = (r j || r k) → c' = (o j || r k) → FInv d d.length i j (k + 1) (updF r j c) (updF o j c') := fun c c' hc hc' =>
            fin _ _ (fun m hm => updF_ne hm) (fun m hm => updF_ne hm) (by simp [updF_eq, k0, hc]) (by cases hok : o k <;> simp [updF_eq, k0, hc', hok]; exact .inr (hko hok))
          cases hrj : r j <;> cases hrk : r k <;> cases hoj : o j <;> simp [h0, h3, h4, h5, h15, h16, h6, h35, h36, h7, h39, h40, hlt, hlt2, hlt3, hkn, w2, k0, M.b0, M.b1, M.br, M.bo, q1, q2, q3, q4, q5, q6, q7, q8, bf, gi, hrj, hrk, hoj, hkj] <;>
            exact hR'' (j - (k + 1)) _ _ (by omega) ⟨k + 1, F, G, _, _, by omega, rfl, (M.setR j _).setO j _, key _ _ (by simp [hrj, hrk]) (by simp [hoj, hrk]), by simp [h0, h3, h4, h5, h15, h16, h6, h35, h36, h7, h39]⟩
      · have : k = j := by omega
        subst this
        have w2 := wrap_i64 (n := (k : Int) + 1) (by omega) (by omega)
        simp [h0, h3, h4, h5, h15, h16, h6, h35, h36, h7, h39, h40, hlt3, w2]
        exact hR' (d.length - (k + 1)) _ _ (by omega) ⟨k + 1, F, G, r, o, by omega, rfl, M, hF.next, by simp [h0, h3, h4, h5, h15, h16, h6, h35, h36, h7, h39]⟩
    · have : j = d.length := by omega
      subst this
      simp [h0, h3, h4, h5, h15, h16, h6, h35, h36, hlt2, wi]
      exact hR (d.length - (i + 1)) _ _ (by omega) ⟨i + 1, F, G, by omega, rfl, M.close fun m hm => (hF.1 m hm).2, by simp [h0, h3, h4, h5, h15, h16, h6, h35, h36]⟩
  · have : i = d.length := by omega
    subst this
    simp [h0, h3, h4, h5, h15, h16]
    refine deep_tab M.b1 (fun m hm => ?_) (fun m _ => M.g1 m) (fun _ _ => rfl)
    rw [M.gm m hm]
    exact deep_tab (M.done m hm) (fun _ _ => sc_deep) (fun _ _ => rfl) (fun _ _ => rfl)

end Go.Proofs.Ytfcgnnafaoanfaa
