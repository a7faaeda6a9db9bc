import Derived.Test.YthdnpgpnodgicaaGreatKFmFn
set_option linter.unusedVariables false
set_option linter.unusedSimpArgs false
set_option maxRecDepth 100000
namespace Go.Proofs.YthdnpgpnodgicaaGreat
open Go Go.Pb Go.RowKit
theorem af4 (W : List Int) (k : List (BitVec 32)) : ∀ (m : Nat) (i : Int), m = Int.toNat ((W.length : Int) - i) → 0 ≤ i → fitsL W k m i = true → ∀ j : Int, i ≤ j → j < W.length → gj (ix k j) (ix W j) = true
 | 0, i, hm, h0, h => fun j h1 h2 => by omega
 | m + 1, i, hm, h0, h => by
   rw [fitsL] at h
   by_cases hc : gj (ix k i) (ix W i) = true
   ·rw [if_neg (by simp [hc])] at h
    intro j h1 h2
    by_cases hj : j = i
    ·subst hj; exact hc
    ·exact af4 W k m (i + 1) (by omega) (by omega) h j (by omega) h2
   ·rw [if_pos (by simpa using hc)] at h; cases h
theorem ad7 {W : List Int} {k : List (BitVec 32)} (h : fitsK W k = true) : ∀ j : Int, 0 ≤ j → j < W.length → gj (ix k j) (ix W j) = true := af4 W k _ 0 (by omega) (by omega) h
theorem bh7 {a b : ay} (h : a.Value = b.Value) (k : a.Mask = b.Mask) : a = b := by
 cases a; cases b
 simp_all
section
variable {p : aa} {t : Int} {l : List am} (G : GoodR p t l)
include G
theorem g_t : 0 ≤ t ∧ t < p.Tables.length := (xe G.tc).1
theorem g_n : (ix p.Tables t).Keys.length ≤ 6 := (xe G.tc).2.1
theorem g_w : (cx p t).length = (ix p.Tables t).Keys.length := (reck rfl G.tc rfl).2.1
theorem ti {i : Int} (h0 : 0 ≤ i) (h1 : i < l.length) : RowG p t (ix l i).Entry := cb7 (G.rc i h0 h1)
theorem ai9 {i : Int} (h0 : 0 ≤ i) (h1 : i < l.length) {k : Int} (k0 : 0 ≤ k) (k1 : k < (ix p.Tables t).Keys.length) : KeyG (ix (ix l i).Entry.Keys k) (ix (cx p t) k) (ix (ix p.Tables t).Keys k).Kind :=
 br4 ((ti G h0 h1).k k k0 (by rw [(ti G h0 h1).n]; exact k1))
theorem ae1 {i : Int} (h0 : 0 ≤ i) (h1 : i < l.length) : (js (ix l i).Entry).length = (ix p.Tables t).Keys.length := by
 rw [za, List.length_map, (ti G h0 h1).n]
theorem bo4 {i : Int} (h0 : 0 ≤ i) (h1 : i < l.length) {k : Int} (k0 : 0 ≤ k) (k1 : k < (ix p.Tables t).Keys.length) : ix (js (ix l i).Entry) k = (ix (ix l i).Entry.Keys k).Value := by
 rw [za, ap0 _ k0 (by rw [(ti G h0 h1).n]; exact k1)]
variable (hk : ky p t ≠ 3)
include hk
theorem cg1 {k : Int} (k0 : 0 ≤ k) (k1 : k < (ix p.Tables t).Keys.length) (hne : k ≠ lpX (ix p.Tables t).Keys) : (ix (ix p.Tables t).Keys k).Kind = 1 := by
 rcases bn4 G.tc hk k k0 k1 with h | h
 ·exact h
 ·exfalso
  rcases sa (ix p.Tables t).Keys with ⟨_, h2⟩ | ⟨h1, h2, h3, h4⟩
  ·exact h2 k k0 k1 h
  ·rcases Int.lt_or_gt_of_ne hne with h5 | h5
   ·exact bh9 G.tc k _ k0 h5 h2 ⟨h, h3⟩
   ·exact bh9 G.tc _ k h1 h5 k1 ⟨h3, h⟩
theorem az3 {i : Int} (h0 : 0 ≤ i) (h1 : i < l.length) {k : Int} (k0 : 0 ≤ k) (k1 : k < (ix p.Tables t).Keys.length) (hne : k ≠ lpX (ix p.Tables t).Keys) : (ix (ix l i).Entry.Keys k).Mask = dl (ix (cx p t) k) := by
 rw [(ai9 G h0 h1 k0 k1).e (cg1 G hk k0 k1 hne), bf9]
omit hk in
theorem g_pl {i : Int} (h0 : 0 ≤ i) (h1 : i < l.length) (hlp : 0 ≤ lpX (ix p.Tables t).Keys) : lpX (ix p.Tables t).Keys < (ix p.Tables t).Keys.length ∧ (dh (ix (ix l i).Entry.Keys (lpX (ix p.Tables t).Keys)).Mask (ix (cx p t) (lpX (ix p.Tables t).Keys))).2 = true := by
 rcases sa (ix p.Tables t).Keys with ⟨h, _⟩ | ⟨_, h2, h3, _⟩
 ·omega
 ·exact ⟨h2, by rw [PrefixLen_eq]; exact (ai9 G h0 h1 hlp h2).l h3⟩
theorem cr4 {i : Int} (h0 : 0 ≤ i) (h1 : i < l.length) {key : List (BitVec 32)} (hl : key.length = (ix p.Tables t).Keys.length) (hf : fitsK (cx p t) key = true) :
 cm (ix l i).Entry key = true ↔ bE (lpX (ix p.Tables t).Keys) (ix l i) = pk key (lpX (ix p.Tables t).Keys) ∧ (0 ≤ lpX (ix p.Tables t).Keys → Agree (ix (cx p t) (lpX (ix p.Tables t).Keys)) (plen (ix (cx p t) (lpX (ix p.Tables t).Keys)) (lpX (ix p.Tables t).Keys) (ix l i)) (ix key (lpX (ix p.Tables t).Keys)) (ix (ix l i).Entry.Keys (lpX (ix p.Tables t).Keys)).Value) := by
 have hn := g_n G
 have hF := ad7 hf
 rw [g_w G] at hF
 have hR := (ti G h0 h1).n
 unfold bE
 rw [bn3 (by rw [ae1 G h0 h1, hl]) (by rw [ae1 G h0 h1]; exact hn), au0, ae1 G h0 h1, hR]
 have one : ∀ k : Int, 0 ≤ k → k < (ix p.Tables t).Keys.length → k ≠ lpX (ix p.Tables t).Keys → ((ix key k ^^^ (ix (ix l i).Entry.Keys k).Value) &&& (ix (ix l i).Entry.Keys k).Mask = 0#32 ↔ ix (js (ix l i).Entry) k = ix key k) := by
  intro k k0 k1 hne
  rw [az3 G hk h0 h1 k0 k1 hne, bo4 G h0 h1 k0 k1]
  have f1 := ((af0 _ _).1 (by rw [← ux]; exact hF k k0 k1)).2
  have f2 := ((af0 _ _).1 (ai9 G h0 h1 k0 k1).f).2
  constructor
  ·intro h; exact (au2 f1 f2 h).symm
  ·intro h; rw [h]; simp
 have two : 0 ≤ lpX (ix p.Tables t).Keys → ((ix key (lpX (ix p.Tables t).Keys) ^^^ (ix (ix l i).Entry.Keys (lpX (ix p.Tables t).Keys)).Value) &&& (ix (ix l i).Entry.Keys (lpX (ix p.Tables t).Keys)).Mask = 0#32 ↔ Agree (ix (cx p t) (lpX (ix p.Tables t).Keys)) (plen (ix (cx p t) (lpX (ix p.Tables t).Keys)) (lpX (ix p.Tables t).Keys) (ix l i)) (ix key (lpX (ix p.Tables t).Keys)) (ix (ix l i).Entry.Keys (lpX (ix p.Tables t).Keys)).Value) := by
  intro hlp
  obtain ⟨hw, n0, n1, e⟩ := qu (g_pl G h0 h1 hlp).2
  have := ai7 (ix key (lpX (ix p.Tables t).Keys)) (ix (ix l i).Entry.Keys (lpX (ix p.Tables t).Keys)).Value hw n0 n1
  rw [e] at this
  exact this
 constructor
 ·rintro ⟨_, h⟩
  exact ⟨fun k k0 k1 hne => (one k k0 k1 hne).1 (h k k0 k1), fun hlp => (two hlp).1 (h _ hlp (g_pl G h0 h1 hlp).1)⟩
 ·rintro ⟨h2, h3⟩
  refine ⟨hl, fun k k0 k1 => ?_⟩
  by_cases hne : k = lpX (ix p.Tables t).Keys
  ·rw [hne] at k0 ⊢
   exact (two k0).2 (h3 k0)
  ·exact (one k k0 k1 hne).2 (h2 k k0 k1 hne)
theorem bm7 {j i : Int} (j0 : 0 ≤ j) (j1 : j < l.length) (h0 : 0 ≤ i) (h1 : i < l.length) (he : bE (lpX (ix p.Tables t).Keys) (ix l j) = bE (lpX (ix p.Tables t).Keys) (ix l i))
 (hp : 0 ≤ lpX (ix p.Tables t).Keys → plen (ix (cx p t) (lpX (ix p.Tables t).Keys)) (lpX (ix p.Tables t).Keys) (ix l j) = plen (ix (cx p t) (lpX (ix p.Tables t).Keys)) (lpX (ix p.Tables t).Keys) (ix l i) ∧ Agree (ix (cx p t) (lpX (ix p.Tables t).Keys)) (plen (ix (cx p t) (lpX (ix p.Tables t).Keys)) (lpX (ix p.Tables t).Keys) (ix l i)) (ix (ix l j).Entry.Keys (lpX (ix p.Tables t).Keys)).Value (ix (ix l i).Entry.Keys (lpX (ix p.Tables t).Keys)).Value) : j = i := by
 have hn := g_n G
 have Rj := ti G j0 j1
 have Ri := ti G h0 h1
 have hs : gx (ix l j).Entry (ix l i).Entry = true := by
  rw [av8]
  refine ⟨by rw [Rj.n, Ri.n], by rw [Rj.pr hk, Ri.pr hk], fun k k0 k1 => ?_⟩
  rw [Rj.n] at k1
  unfold bE at he
  rw [bn3 (by rw [ae1 G j0 j1, ae1 G h0 h1]) (by rw [ae1 G j0 j1]; exact hn), ae1 G j0 j1] at he
  by_cases hne : k = lpX (ix p.Tables t).Keys
  ·subst hne
   obtain ⟨e1, e2⟩ := hp k0
   obtain ⟨hw, n0, n1, m1⟩ := qu (g_pl G h0 h1 k0).2
   obtain ⟨_, _, _, m2⟩ := qu (g_pl G j0 j1 k0).2
   have hM : (ix (ix l j).Entry.Keys (lpX (ix p.Tables t).Keys)).Mask = (ix (ix l i).Entry.Keys (lpX (ix p.Tables t).Keys)).Mask := by
    rw [← m1, ← m2]
    unfold plen at e1
    rw [e1]
   refine bh7 ?_ hM
   have a1 := (ai7 (ix (ix l j).Entry.Keys (lpX (ix p.Tables t).Keys)).Value (ix (ix l i).Entry.Keys (lpX (ix p.Tables t).Keys)).Value hw n0 n1).2 e2
   rw [m1] at a1
   have v1 := (ai9 G j0 j1 k0 k1).v
   rw [hM] at v1
   exact au2 v1 (ai9 G h0 h1 k0 k1).v a1
  ·refine bh7 ?_ (by rw [az3 G hk j0 j1 k0 k1 hne, az3 G hk h0 h1 k0 k1 hne])
   have := he k k0 k1 hne
   rwa [bo4 G j0 j1 k0 k1, bo4 G h0 h1 k0 k1] at this
 rcases Int.lt_trichotomy j i with h | h | h
 ·exact absurd (.inr hs) (G.ds j i j0 h h1)
 ·exact h
 ·refine absurd (.inr ?_) (G.ds i j h0 h j1)
  rw [av8] at hs ⊢
  exact ⟨hs.1.symm, hs.2.1.symm, fun k k0 k1 => (hs.2.2 k k0 (by rw [hs.1]; exact k1)).symm⟩
omit G in
theorem g_bN : bNd p t l = bL (ix (cx p t) (lpX (ix p.Tables t).Keys)) (lpX (ix p.Tables t).Keys) l l.length 0 ([], []) := by
 unfold bNd bR
 rw [Kind_eq, if_neg hk, Widths_eq]
omit G in
theorem ct3 : lpN p t = lpX (ix p.Tables t).Keys := by
 unfold lpN
 rw [Kind_eq, if_neg hk]
theorem g_TI (hlp : 0 ≤ lpX (ix p.Tables t).Keys) : TI (ix (cx p t) (lpX (ix p.Tables t).Keys)) (lpX (ix p.Tables t).Keys) l l.length (bNd p t l).2 := by
 rw [g_bN hk]
 refine bL_T (by omega) (fun i h0 h1 ts H => ?_) _ 0 _ (by omega) (by omega) (by omega) (fun e => by simp only [wget]; intro j h1 h2; omega)
 obtain ⟨hl, hp⟩ := g_pl G h0 h1 hlp
 refine H.step h0 hp (by rw [ux]; exact (ai9 G h0 h1 hlp hl).f) fun j j0 j1 he e1 e2 => ?_
 have := bm7 G hk j0 (by omega) h0 h1 he fun _ => ⟨e1, e2⟩
 omega
omit G hk in
theorem vz {x : au} (hx : x.Keys.length = (ix p.Tables t).Keys.length) (hlp : 0 ≤ lpX (ix p.Tables t).Keys) : ∀ (m : Nat) (i : Int), m = Int.toNat (((ix p.Tables t).Keys.length : Int) - i) → 0 ≤ i → i ≤ lpX (ix p.Tables t).Keys → fg p t x (fun _ => 0) m i = iv (ix x.Keys (lpX (ix p.Tables t).Keys)).Mask
 | 0, i, hm, h0, h1 => by
   rcases sa (ix p.Tables t).Keys with ⟨h, _⟩ | ⟨_, h2, h3, _⟩ <;> omega
 | m + 1, i, hm, h0, h1 => by
   rw [fg]
   rcases sa (ix p.Tables t).Keys with ⟨h, _⟩ | ⟨_, h2, h3, h4⟩
   ·omega
   ·by_cases hi : i = lpX (ix p.Tables t).Keys
    ·rw [hi, if_pos (by simpa using h3), if_pos (by rw [decide_eq_true_eq, hx]; exact h2)]
     rfl
    ·rw [if_neg (by simpa using h4 i h0 (by omega))]
     exact vz hx hlp m (i + 1) (by omega) (by omega) (by omega)
omit hk in
theorem ca2 {i : Int} (h0 : 0 ≤ i) (h1 : i < l.length) (hlp : 0 ≤ lpX (ix p.Tables t).Keys) : fi p t (ix l i).Entry = plen (ix (cx p t) (lpX (ix p.Tables t).Keys)) (lpX (ix p.Tables t).Keys) (ix l i) := by
 have ht := g_t G
 unfold fi
 rw [if_neg (by simp; omega), vz (ti G h0 h1).n hlp _ 0 rfl (by omega) hlp]
 exact bj4 (g_pl G h0 h1 hlp).2
theorem cx9 {key : List (BitVec 32)} (hl : key.length = (ix p.Tables t).Keys.length) (hf : fitsK (cx p t) key = true) : findP p t l key = kb p t l key := by
 have ht := g_t G
 have hM := fun {i : Int} (h0 : 0 ≤ i) (h1 : i < l.length) => cr4 G hk h0 h1 hl hf
 unfold findP
 rw [if_neg (by unfold slowB; rw [Kind_eq, Widths_eq, hf]; simp [hk, hl]), ct3 hk, Widths_eq]
 by_cases hlp : lpX (ix p.Tables t).Keys < 0
 ·rw [if_pos hlp, g_bN hk]
  rcases bL_M hlp (w := ix (cx p t) (lpX (ix p.Tables t).Keys)) (l := l) l.length 0 ([], []) (by omega) (by omega) (pk key (lpX (ix p.Tables t).Keys)) with ⟨j, h1, h2, h3, h4⟩ | ⟨h1, h2⟩
  ·rw [h1]
   refine (ai4 ht (sw.2 ⟨j, h2, h3, rfl⟩) ((hM h2 h3).2 ⟨h4, fun h => by omega⟩) fun x hx hm => .inl ?_).symm
   obtain ⟨i, i0, i1, rfl⟩ := sw.1 hx
   rw [bm7 G hk i0 i1 h2 h3 (((hM i0 i1).1 hm).1.trans h4.symm) fun h => by omega]
  ·rw [h1]
   refine (yq ht fun x hx => ?_).symm
   obtain ⟨i, i0, i1, rfl⟩ := sw.1 hx
   rw [Bool.eq_false_iff]
   intro hm
   exact h2 i i0 i1 ((hM i0 i1).1 hm).1
 ·have hlp : 0 ≤ lpX (ix p.Tables t).Keys := by omega
  rw [if_neg (by omega)]
  have hTI := g_TI G hk hlp (pk key (lpX (ix p.Tables t).Keys))
  cases hg : wget (bNd p t l).2 (pk key (lpX (ix p.Tables t).Keys)) with
  | none =>
    rw [hg] at hTI
    refine (yq ht fun x hx => ?_).symm
    obtain ⟨i, i0, i1, rfl⟩ := sw.1 hx
    rw [Bool.eq_false_iff]
    intro hm
    exact hTI i i0 i1 ((hM i0 i1).1 hm).1
  | some tr =>
    rw [hg] at hTI
    obtain ⟨_, hT⟩ := hTI
    simp only
    have hlt : lpX (ix p.Tables t).Keys < (ix p.Tables t).Keys.length := by
     rcases sa (ix p.Tables t).Keys with ⟨h, _⟩ | ⟨_, h2, _⟩ <;> omega
    have hfit := ad7 hf _ hlp (by rw [g_w G]; exact hlt)
    have hw := ((af0 _ _).1 (by rw [← ux]; exact hfit)).1
    generalize hwe : ix (cx p t) (lpX (ix p.Tables t).Keys) = w at *
    have hlk : lkR w (ix key (lpX (ix p.Tables t).Keys)) tr = lkT w (ix key (lpX (ix p.Tables t).Keys)) tr 0 (0, 0, false) := by
     unfold lkR pfx
     rw [if_pos]
     simp only [Bool.and_eq_true, decide_eq_true_eq]
     exact ⟨⟨by omega, by omega⟩, hfit⟩
    rw [hlk]
    -- a row that matches stands in the trie
    have hin : ∀ i : Int, 0 ≤ i → i < l.length → cm (ix l i).Entry key = true → ∃ n : Nat, plen w (lpX (ix p.Tables t).Keys) (ix l i) = n ∧ (n : Int) ≤ w ∧ gv w (ix key (lpX (ix p.Tables t).Keys)) n 0 tr = some i := by
     intro i i0 i1 hm
     obtain ⟨h2, h3⟩ := (hM i0 i1).1 hm
     obtain ⟨_, n0, n1, _⟩ := qu (g_pl G i0 i1 hlp).2
     rw [hwe] at n0 n1
     replace n0 : 0 ≤ plen w (lpX (ix p.Tables t).Keys) (ix l i) := n0
     replace n1 : plen w (lpX (ix p.Tables t).Keys) (ix l i) ≤ w := n1
     refine ⟨(plen w (lpX (ix p.Tables t).Keys) (ix l i)).toNat, (Int.toNat_of_nonneg n0).symm, by rw [Int.toNat_of_nonneg n0]; exact n1, ?_⟩
     rw [hT _ _ i (by rw [Int.toNat_of_nonneg n0]; exact n1), Int.toNat_of_nonneg n0]
     exact ⟨i0, i1, h2, rfl, h3 hlp⟩
    rcases xl w (ix key (lpX (ix p.Tables t).Keys)) tr 0 (0, 0, false) (by omega) with ⟨h1, h2⟩ | ⟨n, v, h1, h2, h3, h4⟩
    ·rw [h1, if_neg (by simp)]
     refine (yq ht fun x hx => ?_).symm
     obtain ⟨i, i0, i1, rfl⟩ := sw.1 hx
     rw [Bool.eq_false_iff]
     intro hm
     obtain ⟨n, _, hn, hq⟩ := hin i i0 i1 hm
     rw [h2 n (by omega)] at hq; cases hq
    ·rw [h2, if_pos rfl]
     obtain ⟨v0, v1, v2, v3, v4⟩ := (hT _ _ v (by omega)).1 h3
     refine (ai4 ht (sw.2 ⟨v, v0, v1, rfl⟩) ((hM v0 v1).2 ⟨v2, fun _ => by rw [v3]; exact v4⟩) fun x hx hm => ?_).symm
     obtain ⟨i, i0, i1, rfl⟩ := sw.1 hx
     obtain ⟨n', e', hn', hq⟩ := hin i i0 i1 hm
     by_cases hnn : n' = n
     ·left
      subst hnn
      rw [h3] at hq
      simp only [Option.some.injEq] at hq
      rw [hq]
     ·right
      have hlt' : n' < n := by
       apply Decidable.byContradiction
       intro hc
       rw [h4 n' (by omega) (by omega)] at hq
       cases hq
      unfold Bf
      rw [ca2 G i0 i1 hlp, ca2 G v0 v1 hlp, (ti G i0 i1).pr hk, (ti G v0 v1).pr hk, hwe, e', v3]
      exact .inr ⟨rfl, .inl (by omega)⟩
omit hk in
theorem dv5 (key : List (BitVec 32)) : findP p t l key = kb p t l key := by
 by_cases hs : slowB p t key = true
 ·unfold findP
  rw [if_pos hs]
  exact bo3 p t (g_t G) l key
 ·have hs' := hs
  unfold slowB at hs'
  simp only [Bool.or_eq_true, Bool.not_eq_true', decide_eq_false_iff_not, decide_eq_true_eq, not_or, Decidable.not_not, Bool.not_eq_false] at hs'
  rw [Kind_eq, Widths_eq] at hs'
  exact cx9 G hs'.1.1 (by omega) hs'.2
omit hk in
theorem dp0 (hn : l.length ≤ 1000) (hT : p.Tables.length ≤ 1000000) : NewOK p t l := by
 have ht := g_t G
 have h6 := g_n G
 refine ⟨ht.1, ht.2, by omega, by omega, fun hk => ?_⟩
 rw [Kind_eq] at hk
 rw [Widths_eq]
 refine ⟨hn, fun j j0 j1 => by rw [(ti G j0 j1).n]; omega, fun j j0 j1 hlp => ?_, fun hlp hl => ?_⟩
 ·rw [(ti G j0 j1).n]
  exact g_pl G j0 j1 hlp
 ·obtain ⟨h1, h2⟩ := g_pl G (i := 0) (by omega) (by omega) hlp
  obtain ⟨hw, _⟩ := qu h2
  exact ⟨by rw [g_w G]; exact h1, fun h => (ah7 _).1 h hw, hw.2⟩
omit hk in
theorem g_ok : FindOK p t l := by
 have ht := g_t G
 have h6 := g_n G
 by_cases hk : ky p t = 3
 ·have e1 : lpN p t = -1 := by unfold lpN; rw [Kind_eq, if_pos hk]
  have e2 : bNd p t l = ([], []) := by unfold bNd bR; rw [Kind_eq, if_pos hk]
  refine ⟨ht.1, ht.2, by omega, by rw [Widths_eq]; exact g_w G, by omega, by omega, fun _ e i h => ?_, by omega⟩
  rw [e2] at h; cases h
 ·have e1 := ct3 hk
  have hW := Widths_eq p t
  refine ⟨ht.1, ht.2, by omega, by rw [hW]; exact g_w G, ?_, fun hlp e tr h => ?_, fun hlp e i h => ?_, fun hlp e tr x h hok => ?_⟩
  ·rw [e1]
   rcases sa (ix p.Tables t).Keys with ⟨h, _⟩ | ⟨_, h2, _⟩ <;> omega
  ·rw [e1] at hlp ⊢
   rw [hW]
   by_cases hl : 0 < l.length
   ·obtain ⟨hw, _⟩ := qu (g_pl G (i := 0) (by omega) (by omega) hlp).2
    exact hw.2
   ·have : l = [] := List.eq_nil_of_length_eq_zero (by omega)
    subst this
    rw [g_bN hk] at h
    cases h
  ·rw [e1] at hlp
   rw [g_bN hk] at h
   rcases bL_M hlp (w := ix (cx p t) (lpX (ix p.Tables t).Keys)) (l := l) l.length 0 ([], []) (by omega) (by omega) e with ⟨j, h1, h2, h3, h4⟩ | ⟨h1, h2⟩
   ·rw [h1] at h
    simp only [Option.some.injEq] at h
    subst h
    exact ⟨h2, h3⟩
   ·rw [h1] at h; cases h
  ·rw [e1] at hlp hok ⊢
   rw [hW] at hok ⊢
   have hTI := g_TI G hk hlp e
   rw [h] at hTI
   obtain ⟨_, hT⟩ := hTI
   unfold lkR at hok ⊢
   by_cases hp : pfx (ix (cx p t) (lpX (ix p.Tables t).Keys)) x 0 = true
   ·rw [if_pos hp] at hok ⊢
    have hp2 := hp
    unfold pfx at hp2
    simp only [Bool.and_eq_true, decide_eq_true_eq] at hp2
    rcases xl (ix (cx p t) (lpX (ix p.Tables t).Keys)) x tr 0 (0, 0, false) (by omega) with ⟨h1, h2⟩ | ⟨n, v, h1, h2, h3, h4⟩
    ·rw [h1] at hok; cases hok
    ·rw [h2]
     have := (hT _ _ v (by omega)).1 h3
     exact ⟨this.1, this.2.1⟩
   ·rw [if_neg hp] at hok; cases hok
end
theorem LookupFinds_law (x0 : cb) (x1 : List (List (BitVec 32))) : ov x0 x1 = true := rfl
end Go.Proofs.YthdnpgpnodgicaaGreat
