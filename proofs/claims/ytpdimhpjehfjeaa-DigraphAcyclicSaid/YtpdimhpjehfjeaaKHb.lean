/-
  digraph.heights and slices.Max, from the kit's calls to calls with plain data.
-/
import Derived.Test.YtpdimhpjehfjeaaKHe
import Derived.Test.YtpdimhpjehfjeaaKLy
import Derived.Test.YtpdimhpjehfjeaaKGbOrSpDsUsOk
set_option linter.unusedVariables false
set_option linter.unusedSimpArgs false
set_option maxRecDepth 100000
namespace Go.Proofs.Ytpdimhpjehfjeaa
open Go Go.Pb Go.RowKit
theorem ix_get? {l : List Int} {i : Nat} : l[i]?.getD 0 = ix l (i : Int) := by simp only [ix, Int.toNat_natCast, List.getD_eq_getElem?_getD]; rfl
theorem ix_getL {l : List (List Int)} {i : Nat} : l[i]?.getD [] = ix l (i : Int) := by simp only [ix, Int.toNat_natCast, List.getD_eq_getElem?_getD]; rfl
section
variable {P : Program} {x : Cx}
theorem vrm_int {b : Nat} : ∀ {l : List Int} {es : List PV} {sz o : Nat}, All2 tI.R l es → VRM P x b sz es o → ∀ j, j < l.length → x.w.cell? ⟨b, o + j, none⟩ = some (.int .i64 (l[j]?.getD 0)) ∧ x.F b
  | [], es, sz, o, _, _, j, hj => by simp at hj
  | a :: l, [], sz, o, h, _, j, hj => by simp [All2] at h
  | a :: l, e :: es, sz, o, h, hv, j, hj => by
    obtain ⟨he, hl⟩ := h
    have he' : e = vi a := he
    subst he'
    simp only [VRM, VRC] at hv
    obtain ⟨⟨hF, xs, hxs, hc, ⟨rfl, _⟩⟩, hr⟩ := hv
    have hs : sz = 1 := by rw [← hxs]; rfl
    subst hs
    cases j with
    | zero => exact ⟨by have := hc 0 _ rfl; simpa using this, hF⟩
    | succ j =>
      have := vrm_int hl hr j (by simpa using hj)
      rw [show o + 1 + j = o + (j + 1) by omega] at this
      simpa using this
theorem ints_at {L : List Int} {r : PV} {v : Value} (h : (tSl tI).R L r) (hv : VR P x r v) (hF : ∀ b, x.F b → b < x.w.heap.size) : Bk.IntsAt x.w v L := by
  obtain ⟨⟨es, hs, ha⟩, _⟩ := h
  rcases hs with ⟨ad, rfl, rfl⟩ | ⟨t, rfl⟩
  · have := sc_eq hv
    subst this
    cases L with
    | nil => exact ⟨ad, 0, rfl, fun e => absurd rfl e⟩
    | cons a l => simp [All2] at ha
  · simp only [VR, AsVal, PV.isAgg, VRC, List.cons.injEq, and_true] at hv
    obtain ⟨b, o, cap, sz, rfl, _, _, _, hm⟩ := hv
    have hl := ha.length
    refine ⟨some ⟨b, o, none⟩, cap, by rw [hl], fun hne => ⟨b, o, rfl, ?_, fun j hj => (vrm_int ha hm j hj).1⟩⟩
    exact hF b (vrm_int ha hm 0 (List.length_pos_iff.2 hne)).2
theorem vrm_rows (hF : ∀ b, x.F b → b < x.w.heap.size) {b : Nat} : ∀ {l : List (List Int)} {es : List PV} {sz o : Nat}, All2 (tSl tI).R l es → VRM P x b sz es o → ∀ j, j < l.length → (∃ u, x.w.cell? ⟨b, o + j, none⟩ = some u ∧ Bk.IntsAt x.w u (l[j]?.getD [])) ∧ x.F b
  | [], es, sz, o, _, _, j, hj => by simp at hj
  | a :: l, [], sz, o, h, _, j, hj => by simp [All2] at h
  | a :: l, e :: es, sz, o, h, hv, j, hj => by
    obtain ⟨he, hl⟩ := h
    simp only [VRM] at hv
    obtain ⟨⟨hFb, xs, hxs, hc, hve⟩, hr⟩ := hv
    obtain ⟨u, rfl⟩ : ∃ u, xs = [u] := by
      obtain ⟨⟨es', hs', _⟩, _⟩ := he
      rcases hs' with ⟨ad, rfl, _⟩ | ⟨t, rfl⟩
      · simp only [VRC] at hve; exact ⟨_, hve.1⟩
      · simp only [VRC] at hve
        obtain ⟨_, _, _, _, e, _⟩ := hve
        exact ⟨_, e⟩
    have hs : sz = 1 := by rw [← hxs]; rfl
    subst hs
    cases j with
    | zero =>
      refine ⟨⟨u, by have := hc 0 _ rfl; simpa using this, ?_⟩, hFb⟩
      have hvr : VR P x e u := by
        have hag := (tSl tI).agg he
        unfold VR
        rw [hag]
        exact hve
      have := ints_at he hvr hF
      simpa using this
    | succ j =>
      have := vrm_rows hF hl hr j (by simpa using hj)
      rw [show o + 1 + j = o + (j + 1) by omega] at this
      simpa using this
theorem rows_at {g : List (List Int)} {r : PV} {v : Value} (h : (tSl (tSl tI)).R g r) (hv : VR P x r v) (hF : ∀ b, x.F b → b < x.w.heap.size) : ∃ base cap, v = .slice base g.length cap ∧ He.Rows x.w base g := by
  obtain ⟨⟨es, hs, ha⟩, _⟩ := h
  rcases hs with ⟨ad, rfl, rfl⟩ | ⟨t, rfl⟩
  · have := sc_eq hv
    subst this
    cases g with
    | nil => exact ⟨ad, 0, rfl, fun e => absurd rfl e⟩
    | cons a l => simp [All2] at ha
  · simp only [VR, AsVal, PV.isAgg, VRC, List.cons.injEq, and_true] at hv
    obtain ⟨b, o, cap, sz, rfl, _, _, _, hm⟩ := hv
    have hl := ha.length
    refine ⟨some ⟨b, o, none⟩, cap, by rw [hl], fun hne => ⟨b, o, rfl, hF b (vrm_rows hF ha hm 0 (List.length_pos_iff.2 hne)).2, fun i hi => ?_⟩⟩
    obtain ⟨⟨u, hc, base, rc, rfl, hz⟩, _⟩ := vrm_rows hF ha hm i hi
    exact ⟨base, rc, hc, hz⟩
theorem vrm_blk {b : Nat} {cs : List Value} {t : TypeId} (hb : He.Blk x.w b cs t) (hF : x.F b) : ∀ (l pre : List Int), cs = (pre ++ l).map (Value.int .i64) → VRM P x b 1 (l.map vi) pre.length
  | [], pre, h => by simp [VRM]
  | a :: l, pre, h => by
    simp only [List.map_cons, VRM]
    refine ⟨⟨hF, [.int .i64 a], rfl, fun j u hj => ?_, by simp [VRC, Value.oneCell']⟩, ?_⟩
    · cases j with
      | zero =>
        simp only [List.getElem?_cons_zero, Option.some.injEq] at hj
        rw [hb.cell, h, ← hj]
        simp
      | succ j => simp at hj
    · have := vrm_blk hb hF l (pre ++ [a]) (by rw [h]; simp)
      rwa [List.length_append] at this
end
theorem upto_rev {p : Int → Prop} (L : List Int) (hp : ∀ i : Nat, p (L[i]?.getD 0)) : (Bk.upto L hp L.length).map (fun x => x.1.2) = L.reverse := by
  apply List.ext_getElem
  · simp [Bk.upto_length]
  · intro j h1 h2
    simp only [List.length_map, Bk.upto_length] at h1
    simp only [Bk.upto, List.getElem_map, List.getElem_range, Bk.at_, List.getElem_reverse]
    rw [List.getElem?_eq_getElem (by omega)]
    rfl
/-- All numbers lie between 0 and b. -/
def NN (o : List Int) (b : Int) : Prop := ∀ k : Int, 0 ≤ ix o k ∧ ix o k ≤ b
theorem ix_set' {l : List Int} {i k : Int} {a : Int} : ix (l.set i.toNat a) k = a ∨ ix (l.set i.toNat a) k = ix l k := by
  simp only [ix, List.getD_eq_getElem?_getD, List.getElem?_set]
  split
  · split
    · left; rfl
    · rename_i h1 h2
      right
      rw [List.getElem?_eq_none (by omega)]
  · right; rfl
theorem he_one {v w : Int} {o : List Int} {b : Int} (h : NN o b) (hb : b ≤ 1000000) : He.one v o w = htOne v o w ∧ NN (htOne v o w) (b + 1) := by
  have e1 : o[v.toNat]?.getD 0 = ix o v := by simp only [ix, List.getD_eq_getElem?_getD]; rfl
  have e2 : o[w.toNat]?.getD 0 = ix o w := by simp only [ix, List.getD_eq_getElem?_getD]; rfl
  have hv := h v
  have hw := h w
  have e3 : wrap64 (ix o w + 1) = ix o w + 1 := by unfold wrap64; omega
  refine ⟨?_, fun k => ?_⟩
  · unfold He.one htOne
    rw [e1, e2, e3]
    congr 1
    rw [Int.max_def]
    split <;> split <;> omega
  · have hk := h k
    unfold htOne
    rcases ix_set' (l := o) (i := v) (k := k) (a := max (ix o v) (ix o w + 1)) with e | e <;> rw [e]
    · omega
    · omega
theorem he_ones {v : Int} : ∀ (l : List Int) (o : List Int) (b : Int), NN o b → b + l.length ≤ 1000000 → l.foldl (He.one v) o = l.foldl (htOne v) o ∧ NN (l.foldl (htOne v) o) (b + l.length)
  | [], o, b, h, hb => ⟨rfl, by simpa using h⟩
  | w :: l, o, b, h, hb => by
    simp only [List.length_cons] at hb
    obtain ⟨e, h2⟩ := he_one (v := v) (w := w) h (by omega)
    obtain ⟨e3, h4⟩ := he_ones l (htOne v o w) (b + 1) h2 (by omega)
    simp only [List.foldl_cons, e]
    refine ⟨e3, ?_⟩
    have e5 : b + ((w :: l).length : Int) = b + 1 + l.length := by simp only [List.length_cons]; omega
    rw [e5]; exact h4
theorem he_steps {g : List (List Int)} (hr : ∀ k : Int, (ix g k).length ≤ 1000) : ∀ (vs : List Int) (o : List Int) (b : Int), (∀ v ∈ vs, 0 ≤ v) → NN o b → b + 1000 * vs.length ≤ 1000000 → vs.foldl (He.step g) o = vs.foldl (htStep g) o ∧ NN (vs.foldl (htStep g) o) (b + 1000 * vs.length)
  | [], o, b, _, h, hb => ⟨rfl, by simpa using h⟩
  | v :: vs, o, b, hv, h, hb => by
    simp only [List.length_cons] at hb
    have hl := hr v
    obtain ⟨e, h2⟩ := he_ones (v := v) (ix g v) o b h (by omega)
    have e0 : He.step g o v = htStep g o v := by
      unfold He.step htStep
      rw [← e]
      rfl
    have h3 : NN (htStep g o v) (b + 1000) := fun k => by have := h2 k; unfold htStep; omega
    obtain ⟨e3, h4⟩ := he_steps hr vs (htStep g o v) (b + 1000) (fun u hu => hv u (List.mem_cons_of_mem _ hu)) h3 (by omega)
    simp only [List.foldl_cons, e0]
    refine ⟨e3, ?_⟩
    have e5 : b + 1000 * ((v :: vs).length : Int) = b + 1000 + 1000 * vs.length := by simp only [List.length_cons]; omega
    rw [e5]; exact h4
theorem nn_rep (n : Nat) : NN (List.replicate n (0 : Int)) 0 := fun k => by
  have : ix (List.replicate n (0 : Int)) k = 0 := by
    simp only [ix, List.getD_eq_getElem?_getD, List.getElem?_replicate]
    split <;> rfl
  omega
theorem gd_rows {g : List (List Int)} (hg : Gd g.length g) (k : Int) : (ix g k).length ≤ 1000 := by
  by_cases h : k.toNat < g.length
  · have e : ix g k = ix g (k.toNat : Int) := by unfold ix; rw [Int.toNat_natCast]
    rw [e]
    have := hg.r (k.toNat : Int) (by omega) (by omega)
    omega
  · have : ix g k = [] := by simp only [ix, List.getD_eq_getElem?_getD]; rw [List.getElem?_eq_none (by omega)]; rfl
    rw [this]; simp
theorem hts_eq {g : List (List Int)} (hg : Gd g.length g) {vs : List Int} (hv : ∀ v ∈ vs, 0 ≤ v) (hl : vs.length ≤ 24) : He.hts g vs = htsL g vs ∧ NN (htsL g vs) 24000 := by
  obtain ⟨a, b⟩ := he_steps (gd_rows hg) vs (List.replicate g.length 0) 0 hv (nn_rep _) (by omega)
  refine ⟨a, fun k => ?_⟩
  have := b k
  unfold htsL
  omega
theorem ent40 : Enters Try.prog 40 := fun args w => by simp [callFunc, Try.func40, mark, Try.f40]
theorem ent42 : Enters Try.prog 42 := fun args w => by simp [callFunc, Try.func42, mark, Try.f42]
theorem htsL_len (g : List (List Int)) (vs : List Int) : (htsL g vs).length = g.length := by
  have one : ∀ v (l o : List Int), (l.foldl (htOne v) o).length = o.length := fun v l => by
    induction l with
    | nil => intro o; rfl
    | cons w l ih => intro o; rw [List.foldl_cons, ih, htOne, List.length_set]
  have key : ∀ (vs o : List Int), (vs.foldl (htStep g) o).length = o.length := fun vs => by
    induction vs with
    | nil => intro o; rfl
    | cons v vs ih => intro o; rw [List.foldl_cons, ih, htStep, one]
  unfold htsL
  rw [key, List.length_replicate]
theorem f40_of {g : List (List Int)} {O : List Int} {v0 r : PV} (r0 : (tSl (tSl tI)).R g v0) (hg : Gd g.length g) (hn : g.length ≤ 24) (H : FnR Try.prog 39 [v0] r) (hr : (tSl tI).R O r) (hL : ∀ v ∈ O, 0 ≤ v ∧ v < g.length) (hLl : O.length ≤ 24) :
    ∃ c0, FnR Try.prog 40 [v0] (.tup [c0, vb (!decide (O.length < g.length))]) ∧ (tSl tI).R (if O.length < g.length then [] else htsL g O.reverse) c0 := by
  have key : ∀ (w : World) (F : Nat → Prop) (u0 : Value), (∀ b, F b → b < w.heap.size) → VR Try.prog ⟨w, F, noJ⟩ v0 u0 → ∃ base cap, u0 = .slice base g.length cap ∧
      Calls Try.prog 40 #[u0] w fun e W' => Below w.heap.size w W' ∧ (O.length < g.length → e = .returned (.tuple #[.slice none 0 0, .bool false])) ∧ (¬ O.length < g.length → ∃ bo, w.heap.size ≤ bo ∧ e = .returned (.tuple #[.slice (some ⟨bo, 0, none⟩) g.length g.length, .bool true]) ∧ He.Blk W' bo ((htsL g O.reverse).map (Value.int .i64)) 3) := by
    intro w F u0 hF hv
    obtain ⟨base, cap, rfl, hR⟩ := rows_at (x := ⟨w, F, noJ⟩) r0 hv hF
    refine ⟨base, cap, rfl, ?_⟩
    have hp : ∀ i : Nat, (fun v : Int => O ≠ [] → 0 ≤ v ∧ v < (g.length : Int)) (O[i]?.getD 0) := fun i hne => by
      by_cases hi : i < O.length
      · rw [List.getElem?_eq_getElem hi]
        exact hL _ (List.getElem_mem _)
      · rw [List.getElem?_eq_none (by omega)]
        have := hL _ (List.head_mem hne)
        exact ⟨Int.le_refl _, by show (0 : Int) < _; omega⟩
    have hcl : closed v0 = true := TR.clo _ r0
    have := He.heights_in (p := fun v : Int => O ≠ [] → 0 ≤ v ∧ v < (g.length : Int)) Fence.wide 3 trivial trivial trivial trivial rfl (Nat.le_refl _) w base cap g O (by omega) hp (by omega) hR
      (fun hne v h => h (fun e => hne (by rw [e]; rfl)))
      (fun i => by rw [ix_getL]; have := gd_rows hg i; omega)
      (fun i j hi hj => by
        rw [ix_getL] at hj ⊢
        rw [ix_get?]
        exact hg.at (by omega) (by omega) (by omega) (by omega))
      (fun W hB => callsIn_wide.2 ((H.2 W F [.slice base g.length cap] (fun b hb => Nat.lt_of_lt_of_le (hF b hb) hB.size) (by
          simp only [VRV, and_true]
          refine VR_sees (x := ⟨w, F, noJ⟩) (y := ⟨W, F, noJ⟩) ⟨fun b hb => ⟨hb, hB.block b (hF b hb)⟩⟩ hcl ?_
          exact hv)).mono fun e W' ⟨v, y, he, hw, hG, hvr⟩ => by
        subst hw
        have hI := ints_at hr hvr (fun b hb => by
          rcases hG.new b hb with h | h
          · exact Nat.lt_of_lt_of_le (hF b h) (Nat.le_trans hB.size hG.below.size)
          · exact h.2)
        obtain ⟨b2, c2, rfl, h3⟩ := hI
        exact ⟨b2, c2, he, hG.below.toBelow, b2, c2, rfl, h3⟩))
    have hc := callsIn_wide.1 this
    have hU := upto_rev (p := fun v : Int => O ≠ [] → 0 ≤ v ∧ v < (g.length : Int)) O hp
    have hE := (hts_eq hg (vs := O.reverse) (fun v hv => (hL v (List.mem_reverse.1 hv)).1) (by rw [List.length_reverse]; exact hLl)).1
    rw [← hU] at hE
    rw [hE, hU] at hc
    exact hc
  by_cases hlt : O.length < g.length
  · refine ⟨nilS, ⟨ent40, fun w F cargs hF hv => ?_⟩, by rw [if_pos hlt]; exact sl_nil⟩
    match cargs, hv with
    | [u0], hv =>
      simp only [VRV, and_true] at hv
      obtain ⟨base, cap, rfl, hc⟩ := key w F u0 hF hv
      refine hc.mono fun e W' ⟨hB, h1, _⟩ => ?_
      refine ⟨_, ⟨W', F, noJ⟩, h1 hlt, rfl, ⟨⟨hB, by unfold dle; trivial⟩, rfl, fun b hb => hb, fun b hb => .inl hb⟩, ?_⟩
      exact ⟨[.slice none 0 0, .bool false], rfl, by simp [VRV, AsVal, PV.isAgg, VRC, Value.oneCell', hlt]⟩
  · refine ⟨.fs true ((htsL g O.reverse).map vi), ⟨ent40, fun w F cargs hF hv => ?_⟩, by
      rw [if_neg hlt]
      refine ⟨⟨_, .inr ⟨true, rfl⟩, map_all2 (R := tI.R) (fun x => rfl) _⟩, ?_⟩
      rw [htsL_len]; omega⟩
    match cargs, hv with
    | [u0], hv =>
      simp only [VRV, and_true] at hv
      obtain ⟨base, cap, rfl, hc⟩ := key w F u0 hF hv
      refine hc.mono fun e W' ⟨hB, _, h2⟩ => ?_
      obtain ⟨bo, hbo, rfl, hblk⟩ := h2 hlt
      have hbs : bo < W'.heap.size := (Array.getElem?_eq_some_iff.1 hblk).1
      refine ⟨_, ⟨W', fun b => F b ∨ b = bo, noJ⟩, rfl, rfl, ⟨⟨hB, by unfold dle; trivial⟩, rfl, fun b hb => .inl hb, fun b hb => ?_⟩, ?_⟩
      · rcases hb with hb | rfl
        · exact .inl hb
        · exact .inr ⟨hbo, hbs⟩
      · refine ⟨_, rfl, ?_⟩
        simp only [VRV, AsVal, PV.isAgg, VRC, and_true, List.cons.injEq]
        refine ⟨⟨bo, 0, g.length, 1, by rw [List.length_map, htsL_len], by rw [List.length_map, htsL_len]; exact Nat.le_refl _, by unfold maxLen; omega, fun _ => by rw [List.length_map, htsL_len], ?_⟩, by simp [hlt, Value.oneCell']⟩
        exact vrm_blk (x := ⟨W', fun b => F b ∨ b = bo, noJ⟩) hblk (.inr rfl) _ [] rfl
theorem f42_of {l : List Int} {v0 : PV} (r0 : (tSl tI).R l v0) (h0 : 0 < l.length) : FnR Try.prog 42 [v0] (vi (maxL l)) := by
  refine ⟨ent42, fun w F cargs hF hv => ?_⟩
  match cargs, hv with
  | [u0], hv =>
    simp only [VRV, and_true] at hv
    obtain ⟨base, cap, rfl, hz⟩ := ints_at (x := ⟨w, F, noJ⟩) r0 hv hF
    obtain ⟨b, off, rfl, hb, hc⟩ := hz (List.length_pos_iff.1 h0)
    have hl := r0.2
    refine (Try.maxI_calls b off l.length cap l w h0 (Nat.le_refl _) hl (fun j hj => ?_)).mono fun e w' ⟨he, hw⟩ => ?_
    · rw [hc j hj, List.getD_eq_getElem?_getD]
    · subst hw
      refine ⟨_, ⟨w', F, noJ⟩, he, rfl, Grow.refl _, ?_⟩
      rw [List.take_length]
      show _ = _ ∧ _
      exact ⟨rfl, rfl⟩
end Go.Proofs.Ytpdimhpjehfjeaa
