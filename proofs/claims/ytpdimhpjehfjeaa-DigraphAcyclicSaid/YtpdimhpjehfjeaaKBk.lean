/-
  slices.Backward at []int, by the kit's laws of a range over a function.
-/
import Derived.RangeFuncNested
import Derived.RangeFuncBound
import Derived.RangeFuncCalls
import Derived.RangeFuncBox
import Derived.RangeFuncLeaves
import Derived.Shelf.Abstract
import Derived.WalkKit
import Derived.OwnWalkIn
import Derived.TacticsInMore
import Derived.LoopNIn
import Derived.LoopIn
import Derived.Test.YtpdimhpjehfjeaaChecked
set_option linter.unusedVariables false
set_option linter.unusedSimpArgs false
namespace Go.Proofs
open Go.RowKit Go.Shelf
attribute [local go_sem] Oper.semAt_some
/-- Whatever lay below n0 lies as it lay, but for one block. -/
def Bk.But (n₀ o : Nat) (W W' : World) : Prop := W.heap.size ≤ W'.heap.size ∧ ∀ k, k < n₀ → k ≠ o → W'.heap[k]? = W.heap[k]?
theorem Bk.But.refl (n₀ o : Nat) (W : World) : Bk.But n₀ o W W := ⟨Nat.le_refl _, fun _ _ _ => rfl⟩
theorem Bk.But.trans {n₀ o : Nat} {A B C : World} (h : Bk.But n₀ o A B) (k : Bk.But n₀ o B C) : Bk.But n₀ o A C := ⟨Nat.le_trans h.1 k.1, fun i h1 h2 => (k.2 i h1 h2).trans (h.2 i h1 h2)⟩
theorem Bk.But.cell {n₀ o : Nat} {A B : World} (h : Bk.But n₀ o A B) {b j : Nat} (hb : b < n₀) (hne : b ≠ o) : B.cell? ⟨b, j, none⟩ = A.cell? ⟨b, j, none⟩ := by
  unfold World.cell?
  rw [h.2 b hb hne]
theorem Bk.But.put {n₀ o : Nat} (W : World) (l : Nat) (x y : Obj) (hl : n₀ ≤ l) : Bk.But n₀ o W (W.putObj l y) := ⟨by simp, fun k h1 _ => World.putObj_heap_other (by omega)⟩
/-- What has come when k rounds are over, from the end on. -/
def Bk.at_ {p : Int → Prop} (zs : List Int) (hp : ∀ i : Nat, p (zs[i]?.getD 0)) (m : Nat) : {x : Int × Int // p x.2} := ⟨((m : Int), zs[m]?.getD 0), hp m⟩
def Bk.upto {p : Int → Prop} (zs : List Int) (hp : ∀ i : Nat, p (zs[i]?.getD 0)) (k : Nat) : List {x : Int × Int // p x.2} := (List.range k).map fun j => Bk.at_ zs hp (zs.length - 1 - j)
theorem Bk.upto_succ {p : Int → Prop} (zs : List Int) (hp : ∀ i : Nat, p (zs[i]?.getD 0)) (k : Nat) : Bk.upto zs hp (k + 1) = Bk.upto zs hp k ++ [Bk.at_ zs hp (zs.length - 1 - k)] := by simp [Bk.upto, List.range_succ]
theorem Bk.upto_length {p : Int → Prop} (zs : List Int) (hp : ∀ i : Nat, p (zs[i]?.getD 0)) (k : Nat) : (Bk.upto zs hp k).length = k := by simp [Bk.upto]

set_option maxRecDepth 100000 in
set_option maxHeartbeats 2000000 in
theorem Bk.back1_in {p : Int → Prop} (F : Fence) (n : Nat) (h7 : F.fn 57) (hro : F.round = none) (hn : 1 ≤ n) (l Bs n₀ o b off cap : Nat) (zs : List Int) (hp : ∀ i : Nat, p (zs[i]?.getD 0)) (hreach : zs.length * 8 ≤ 140737488351232) (hb : b < n₀) (hbo : b ≠ o) (hBo : Bs ≠ o) (J Jx : List {x : Int × Int // p x.2} → World → Prop)
    (hY : ∀ pre x W, J pre W → pre.length < zs.length → YieldAt F (n - 1) Try.prog l #[.int .i64 x.1.1, .int .i64 x.1.2] W fun e W' =>
      (e = .returned (.bool true) ∧ J (pre ++ [x]) W' ∧ Bk.But n₀ o W W') ∨ (e = .returned (.bool false) ∧ Jx (pre ++ [x]) W'))
    (W : World) (hBn : Bs < n₀) (hBs : W.cell? ⟨Bs, 0, none⟩ = some (.slice (some ⟨b, off, none⟩) zs.length cap)) (hc : ∀ j, j < zs.length → W.cell? ⟨b, off + j, none⟩ = some (.int .i64 (zs[j]?.getD 0))) (h0 : J [] W) :
    CallsIn F n Try.prog 57 #[.func (.yield l) #[] #[], .pointer (some ⟨Bs, 0, none⟩)] W fun e W' => (∃ v, e = .returned v) ∧
      ((∃ ys, ys = Bk.upto zs hp zs.length ∧ J ys W') ∨ (∃ pre, (∃ k, k ≤ zs.length ∧ pre = Bk.upto zs hp k) ∧ Jx pre W')) := by
  refine callsIn_of_wp Try.func57 rfl h7 ?_ hro
  simp only [Try.ntmps57, List.size_toArray, List.length_cons, List.length_nil, Nat.reduceAdd, Nat.reduceSub, Array.replicate_succ, Array.replicate_zero, List.push_toArray, List.append_toArray, List.nil_append, List.cons_append]
  gi_wp2
  gi_loopw [3] (fun i wr => ∃ k : Nat, k ≤ zs.length ∧ i = .int .i64 (((zs.length - k : Nat) : Int) - 1) ∧ J (Bk.upto zs hp k) wr ∧ Bk.But n₀ o W wr)
    (fun i _ => (intOf i + 1).toNat)
  case atStart => exact ⟨0, Nat.zero_le _, by simp, h0, Bk.But.refl _ _ _⟩
  case round =>
    obtain ⟨k, hk, rfl, hJs, hnx⟩ := hrel
    have hBs' := (hnx.cell hBn hBo).trans hBs
    by_cases hlt : k < zs.length
    · have hcx : wr.cell? ⟨b, off + (zs.length - 1 - k), none⟩ = some (.int .i64 (zs[zs.length - 1 - k]?.getD 0)) := (hnx.cell hb hbo).trans (hc _ (by omega))
      have hi : ((zs.length - k : Nat) : Int) - 1 = ((zs.length - 1 - k : Nat) : Int) := by omega
      rw [hi]
      obtain ⟨m, hm⟩ : ∃ m, zs.length - 1 - k = m := ⟨_, rfl⟩
      have hmk : m + 1 + k = zs.length := by omega
      have hmlt : m < zs.length := by omega
      have hJn : ∀ W', J (Bk.upto zs hp k ++ [Bk.at_ zs hp m]) W' → J (Bk.upto zs hp (k + 1)) W' := fun W' h => by rw [Bk.upto_succ, hm]; exact h
      have hJx2 : ∀ W', Jx (Bk.upto zs hp k ++ [Bk.at_ zs hp m]) W' → Jx (Bk.upto zs hp (k + 1)) W' := fun W' h => by rw [Bk.upto_succ, hm]; exact h
      rw [hm] at hcx ⊢
      clear hm hi
      obtain ⟨x, hx, hx1, hx2⟩ : ∃ x, Bk.at_ zs hp m = x ∧ x.1.1 = (m : Int) ∧ zs[m]?.getD 0 = x.1.2 := ⟨_, rfl, rfl, rfl⟩
      rw [hx] at hJn hJx2
      rw [hx2] at hcx
      obtain ⟨fn, tmps, assign, body, hy, hR⟩ := hY _ x wr hJs (by rw [Bk.upto_length]; exact hlt)
      rw [hx1] at hy
      clear hx hx1 hx2 hmlt
      generalize x.1.2 = v at hcx hy
      gi_wp2
      refine hR.mono ?_
      rintro e W3 (⟨rfl, hJ3, hk3⟩ | ⟨rfl, hJx3⟩)
      · gi_wp2
        go_roundw
        case rel => exact ⟨k + 1, by omega, by congr 1; omega, hJn _ hJ3, hnx.trans hk3⟩
        case measure => simp [intOf]
      · gi_wp2
        refine bodyPost_ret (results_none rfl _ _ _) rfl ?_
        exact ⟨⟨_, rfl⟩, .inr ⟨_, ⟨k + 1, by omega, rfl⟩, hJx2 _ hJx3⟩⟩
    · obtain rfl : k = zs.length := by omega
      gi_wp2
      go_end0
      exact ⟨⟨_, rfl⟩, .inl ⟨_, rfl, hJs⟩⟩

set_option maxRecDepth 100000 in
set_option maxHeartbeats 1000000 in
theorem Bk.back1_nil {p : Int → Prop} (F : Fence) (n : Nat) (h7 : F.fn 57) (hro : F.round = none) (l Bs cap : Nat) (base : Option Addr) (J : List {x : Int × Int // p x.2} → World → Prop) (W : World) (hBs : W.cell? ⟨Bs, 0, none⟩ = some (.slice base 0 cap)) (h0 : J [] W) :
    CallsIn F n Try.prog 57 #[.func (.yield l) #[] #[], .pointer (some ⟨Bs, 0, none⟩)] W fun e W' => (∃ v, e = .returned v) ∧ J [] W' := by
  refine callsIn_of_wp Try.func57 rfl h7 ?_ hro
  simp only [Try.ntmps57, List.size_toArray, List.length_cons, List.length_nil, Nat.reduceAdd, Nat.reduceSub, Array.replicate_succ, Array.replicate_zero, List.push_toArray, List.append_toArray, List.nil_append, List.cons_append]
  gi_wp2
  gi_loopw [3] (fun i wr => i = .int .i64 (-1) ∧ J [] wr) (fun _ _ => 0)
  case atStart => exact ⟨rfl, h0⟩
  case round =>
    obtain ⟨rfl, hJs⟩ := hrel
    gi_wp2
    go_end0
    exact ⟨⟨_, rfl⟩, hJs⟩

set_option maxHeartbeats 1000000 in
theorem Bk.back_in (F : Fence) (n : Nat) (h5 : F.fn 50) (hro : F.round = none) (a : Option Addr) (len cap : Nat) (w : World) :
    CallsIn F n Try.prog 50 #[.slice a len cap] w fun e w' => e = .returned (.func (.func 57) #[] #[.pointer (some ⟨w.heap.size, 0, none⟩)]) ∧ w' = w.alloc (.cells #[.slice a len cap] 31) := by
  refine callsIn_of_wp Try.func50 rfl h5 ?_ hro
  simp only [Try.ntmps50, List.size_toArray, List.length_cons, List.length_nil, Nat.reduceAdd, Nat.reduceSub, Array.replicate_succ, Array.replicate_zero, List.push_toArray, List.append_toArray, List.nil_append, List.cons_append]
  gi_wp2
  go_ret
  exact ⟨rfl, rfl⟩

/-- A slice value holds these numbers. -/
def Bk.IntsAt (W : World) (u : Value) (zs : List Int) : Prop := ∃ base cap, u = .slice base zs.length cap ∧ (zs ≠ [] → ∃ b off, base = some ⟨b, off, none⟩ ∧ b < W.heap.size ∧ ∀ j, j < zs.length → W.cell? ⟨b, off + j, none⟩ = some (.int .i64 (zs[j]?.getD 0)))
theorem Bk.IntsAt.below {A B : World} {u : Value} {zs : List Int} (h : Below A.heap.size A B) : Bk.IntsAt A u zs → Bk.IntsAt B u zs
  | ⟨base, cap, e, hz⟩ => ⟨base, cap, e, fun hne => by
    obtain ⟨b, off, e2, hb, hc⟩ := hz hne
    exact ⟨b, off, e2, Nat.lt_of_lt_of_le hb h.size, fun j hj => (h.cell (p := ⟨b, off + j, none⟩) hb).trans (hc j hj)⟩⟩

theorem Bk.back_stops {p : Int → Prop} (F : Fence) (n : Nat) (h7 : F.fn 57) (hro : F.round = none) (hn : 1 ≤ n) (Bs n₀ o : Nat) (sv : Value) (zs : List Int) (hp : ∀ i : Nat, p (zs[i]?.getD 0)) (hreach : zs.length * 8 ≤ 140737488351232) (w : World) (hBs : Bs < n₀) (hn₀ : n₀ ≤ w.heap.size) (hBo : Bs ≠ o)
    (hc : w.cell? ⟨Bs, 0, none⟩ = some sv) (hI : ∃ A, A.heap.size ≤ n₀ ∧ A.heap.size ≤ o ∧ Below A.heap.size A w ∧ Bk.IntsAt A sv zs) :
    SeqStopsK F n Try.prog 57 #[.pointer (some ⟨Bs, 0, none⟩)] (fun x : {x : Int × Int // p x.2} => #[Value.int .i64 x.1.1, Value.int .i64 x.1.2]) (Bk.But n₀ o) (fun ys => ys = Bk.upto zs hp zs.length)
      (fun pre => ∃ k, k ≤ zs.length ∧ pre = Bk.upto zs hp k) zs.length w := fun l J Jx W hW _ _ hY h0 => by
  have hc' := (hW.cell (p := ⟨Bs, 0, none⟩) (by show Bs < _; omega)).trans hc
  obtain ⟨A, hA, hAo, hAw, base, cap, rfl, hI⟩ := hI
  by_cases hz : zs = []
  · subst hz
    exact (Bk.back1_nil F n h7 hro l Bs cap base J W hc' h0).mono fun e W' ⟨he, hj⟩ => ⟨he, .inl ⟨_, rfl, hj⟩⟩
  · obtain ⟨b, off, rfl, hb, hcs⟩ := hI hz
    exact Bk.back1_in F n h7 hro hn l Bs n₀ o b off cap zs hp hreach (by omega) (by omega) hBo J Jx hY W hBs hc' (fun j hj => (hW.cell (p := ⟨b, off + j, none⟩) (by show b < _; omega)).trans ((hAw.cell (p := ⟨b, off + j, none⟩) hb).trans (hcs j hj))) h0
end Go.Proofs
